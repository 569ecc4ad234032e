import PyProof.Rows.All
import Wide.All
import OpenK.AllK
import Wide.FinOn
import KE.DataEq
import KE.DataAny
import KE.DataIsa
import KE.DataCmp
import KE.DataMinMax
import KE.SortData
import HandS.ForMost
import HandS.Walk
import HandS.Zip
import HandS.TupAny
import HandS.Flow
import HandS.Style
import HandS.DictComp
import HandS.Exc
import HandS.TryMany
import HandS.ExcOwn
import HandS.WordsExc
import HandS.TupMul
import HandS.Conv
import HandS.More
import HandS.TupLen
import HandS.Small
import HandS.Dict
import HandS.TupSets
import KE.GoesEnum
import KE.GoesMore
import KE.KDictZip
import KE.GoesZip
import HandS.HeadHook1
import HandS.HeadHook4
import HandS.HeadEnd
import HandS.Head0
import HandS.Head1
import HandS.Head2
import HandS.HeadHook2
import KE.KStateDown
import PySem.Challenge.RW_landmarks_k21_fitting_by_hand
set_option Elab.async false
set_option linter.all false
set_option maxRecDepth 100000
set_option maxHeartbeats 0
/-! G6: a functional reading of a small Python over PyData: slots, owned or frozen. -/
namespace G6
open PySem
abbrev D := PyData
/-- the slots of a def: not assigned, or (owned?, value) -/
abbrev En := List (Option (Bool × D))
inductive Re (α : Type) where
  | ok (a : α) (e : En)
  | exc (c : Str) (e : En)
  | bad
def Re.bind {α β : Type} (r : Re α) (f : α → En → Re β) : Re β := match r with
  | .ok a e => f a e
  | .exc c e => .exc c e
  | .bad => .bad
@[simp] theorem Re.bind_ok {α β : Type} (a : α) (e : En) (f : α → En → Re β) : (Re.ok a e).bind f = f a e := rfl
@[simp] theorem Re.bind_exc {α β : Type} (c : Str) (e : En) (f : α → En → Re β) : (Re.exc c e : Re α).bind f = .exc c e := rfl
@[simp] theorem Re.bind_bad {α β : Type} (f : α → En → Re β) : (Re.bad : Re α).bind f = .bad := rfl
abbrev X := En → Re (D × Bool)
abbrev T := En → Re Bool
/-- an operand that is only looked at -/
inductive Pk where
  | nm (i : Nat)
  | ex (m : X)
abbrev Tok := Nat ⊕ D
def Pk.ev : Pk → En → Re Tok
  | .nm i, e => match e[i]? with
    | some (some _) => .ok (.inl i) e
    | _ => .bad
  | .ex m, e => (m e).bind fun r e1 => .ok (.inr r.1) e1
def tget (e : En) : Tok → Option D
  | .inl i => match e[i]? with
    | some (some s) => some s.2
    | _ => none
  | .inr d => some d
def evPks : List Pk → En → Re (List Tok)
  | [], e => .ok [] e
  | p :: ps, e => (p.ev e).bind fun t e1 => (evPks ps e1).bind fun ts e2 => .ok (t :: ts) e2
def tgets (e : En) : List Tok → Option (List D)
  | [] => some []
  | t :: ts => match tget e t, tgets e ts with
    | some d, some ds => some (d :: ds)
    | _, _ => none
abbrev Pr := List D → Option (D × Bool)
def xPrim (f : Pr) (ps : List Pk) : X := fun e => (evPks ps e).bind fun ts e1 => match tgets e1 ts with
  | some ds => (match f ds with
    | some r => .ok r e1
    | none => .bad)
  | none => .bad
def xVar (i : Nat) : X := fun e => match e[i]? with
  | some (some s) => .ok (s.2, false) (e.set i (some (false, s.2)))
  | _ => .bad
def xLit (d : D) : X := fun e => .ok (d, false) e
def evXs : List X → En → Re (List D)
  | [], e => .ok [] e
  | m :: ms, e => (m e).bind fun r e1 => (evXs ms e1).bind fun ds e2 => .ok (r.1 :: ds) e2
def xTup (ms : List X) : X := fun e => (evXs ms e).bind fun ds e1 => .ok (.tuple ds, false) e1
def xLst (ms : List X) : X := fun e => (evXs ms e).bind fun ds e1 => .ok (.list ds, true) e1
/-! tests -/
/-- its truth is told here -/
def truOk : D → Bool
  | .str s => decide (s.length ≤ sizeLine)
  | .dict _ => false
  | _ => true
def tVal (p : Pk) : T := fun e => (p.ev e).bind fun t e1 => match tget e1 t with
  | some d => if truOk d then .ok d.truthy e1 else .bad
  | none => .bad
/-- a comparison as a test: its answer is True or False -/
def tCmp (m : X) : T := fun e => (m e).bind fun r e1 => match r.1 with
  | .bool b => .ok b e1
  | _ => .bad
def tNot (t : T) : T := fun e => (t e).bind fun b e1 => .ok (!b) e1
def tAnd (t u : T) : T := fun e => (t e).bind fun b e1 => if b then u e1 else .ok false e1
def tOr (t u : T) : T := fun e => (t e).bind fun b e1 => if b then .ok true e1 else u e1
def xIf (t : T) (a b : X) : X := fun e => (t e).bind fun c e1 => if c then a e1 else b e1
/-- x and y, x or y as values: x is True or False -/
def xAnd (a b : X) : X := fun e => (a e).bind fun r e1 => match r.1 with
  | .bool true => b e1
  | .bool false => .ok (.bool false, false) e1
  | _ => .bad
def xOr (a b : X) : X := fun e => (a e).bind fun r e1 => match r.1 with
  | .bool false => b e1
  | .bool true => .ok (.bool true, false) e1
  | _ => .bad
def xNot (p : Pk) : X := fun e => (p.ev e).bind fun t e1 => match tget e1 t with
  | some d => if truOk d then .ok (.bool (!d.truthy), false) e1 else .bad
  | none => .bad
/-- a op b op2 c: b is looked at once -/
def xCmp2 (f g : Pr) (a b c : Pk) : X := fun e => (a.ev e).bind fun ta e1 => (b.ev e1).bind fun tb e2 =>
  match tget e2 ta, tget e2 tb with
  | some x, some y => (match f [x, y] with
    | some (.bool true, _) => (c.ev e2).bind fun tc e3 => (match tget e3 tb, tget e3 tc with
      | some y', some z => (match g [y', z] with
        | some (.bool k, _) => .ok (.bool k, false) e3
        | _ => .bad)
      | _, _ => .bad)
    | some (.bool false, _) => .ok (.bool false, false) e2
    | _ => .bad)
  | _, _ => .bad
/-! calls of defs -/
inductive FRe where
  | ok (d : D) (fr : Bool) (outs : List D)
  | exc (c : Str)
  | bad
abbrev Fn := List D → FRe
/-- an argument: a value; a variable that the def may change; a new object that it may change -/
inductive Ar where
  | v (m : X)
  | io (i : Nat)
  | tmp (m : X)
/-- what an argument is worth at the call: its value or its slot -/
inductive At where
  | v (d : D)
  | io (i : Nat)
  | tmp (d : D)
def evArs : List Ar → En → Re (List At)
  | [], e => .ok [] e
  | .v m :: r, e => (m e).bind fun x e1 => (evArs r e1).bind fun ts e2 => .ok (.v x.1 :: ts) e2
  | .io i :: r, e => match e[i]? with
    | some (some _) => (evArs r e).bind fun ts e2 => .ok (.io i :: ts) e2
    | _ => .bad
  | .tmp m :: r, e => (m e).bind fun x e1 => if x.2 then (evArs r e1).bind fun ts e2 => .ok (.tmp x.1 :: ts) e2 else .bad
/-- the arguments' values; io ones must be owned -/
def atVals (e : En) : List At → Option (List D)
  | [] => some []
  | .v d :: r => (atVals e r).map (d :: ·)
  | .tmp d :: r => (atVals e r).map (d :: ·)
  | .io i :: r => match e[i]? with
    | some (some (true, d)) => (atVals e r).map (d :: ·)
    | _ => none
/-- what the def gives back into the slots -/
def putOuts : List At → List D → En → Option En
  | [], [], e => some e
  | .v _ :: r, os, e => putOuts r os e
  | .io i :: r, o :: os, e => putOuts r os (e.set i (some (true, o)))
  | .tmp _ :: r, _ :: os, e => putOuts r os e
  | _, _, _ => none
def loseOuts : List At → En → En
  | [], e => e
  | .io i :: r, e => loseOuts r (e.set i none)
  | _ :: r, e => loseOuts r e
def xCall (f : Fn) (as : List Ar) : X := fun e => (evArs as e).bind fun ts e1 => match atVals e1 ts with
  | some ds => (match f ds with
    | .ok d fr outs => (match putOuts ts outs e1 with
      | some e2 => .ok (d, fr) e2
      | none => .bad)
    | .exc c => .exc c (loseOuts ts e1)
    | .bad => .bad)
  | none => .bad
/-! targets -/
inductive Tg where
  | nm (i : Nat)
  | tup (ts : List Tg)
mutual
def Tg.put : Tg → D → En → Option En
  | .nm i, d, e => some (e.set i (some (false, d)))
  | .tup ts, d, e => match d with
    | .tuple ds => putAll ts ds e
    | _ => none
def putAll : List Tg → List D → En → Option En
  | [], [], e => some e
  | t :: ts, d :: ds, e => match t.put d e with
    | some e1 => putAll ts ds e1
    | none => none
  | _, _, _ => none
end
/-! what is walked -/
inductive It where
  | val (m : X)
  | rng1 (a : Pk)
  | rng2 (a b : Pk)
  | enum (m : X)
  | zip (m n : X)
  | enumZip (m n : X)
  | items (m : X)
def chars (s : Str) : List D := s.cps.toList.map fun c => .str ⟨#[c]⟩
/-- the items of a value that is walked -/
def walked : D → Option (List D)
  | .list xs => some xs
  | .tuple xs => some xs
  | .str s => some (chars s)
  | .dict kvs => if kvs.isEmpty then none else some (kvs.map (·.1))
  | _ => none
def seqD : D → Option (List D)
  | .list xs => some xs
  | .tuple xs => some xs
  | _ => none
def small62 (i : Int) : Bool := decide (-(2 ^ 62) ≤ i) && decide (i < 2 ^ 62)
def rngD (lo hi : Int) : List D := (List.range (hi - lo).toNat).map fun (k : Nat) => .int (lo + (k : Int))
def enumD (k : Nat) : List D → List D
  | [] => []
  | x :: xs => .tuple [.int (k : Int), x] :: enumD (k + 1) xs
def zipD : List D → List D → List D
  | x :: xs, y :: ys => .tuple [x, y] :: zipD xs ys
  | _, _ => []
def ofO (o : Option (List D)) (e : En) : Re (List D) := match o with
  | some ds => .ok ds e
  | none => .bad
def It.ev : It → En → Re (List D)
  | .val m, e => (m e).bind fun r e1 => ofO (walked r.1) e1
  | .rng1 a, e => (evPks [a] e).bind fun ts e1 => match tgets e1 ts with
    | some [.int n] => if small62 n then .ok (rngD 0 n) e1 else .bad
    | _ => .bad
  | .rng2 a b, e => (evPks [a, b] e).bind fun ts e1 => match tgets e1 ts with
    | some [.int m, .int n] => if small62 m && small62 n then .ok (rngD m n) e1 else .bad
    | _ => .bad
  | .enum m, e => (m e).bind fun r e1 => (match r.1 with
    | .list xs => .ok (enumD 0 xs) e1
    | .tuple xs => .ok (enumD 0 xs) e1
    | _ => .bad)
  | .zip m n, e => (m e).bind fun r e1 => (n e1).bind fun q e2 => match r.1, q.1 with
    | .list xs, .list ys => .ok (zipD xs ys) e2
    | .tuple xs, .tuple ys => .ok (zipD xs ys) e2
    | .list xs, .tuple ys => .ok (zipD xs ys) e2
    | .tuple xs, .list ys => .ok (zipD xs ys) e2
    | _, _ => .bad
  | .enumZip _ _, _ => .bad
  | .items _, _ => .bad
/-! comprehensions: own slots are forgotten within, and stand as before behind -/
def frozenAt (e : En) (i : Nat) : Bool := match e[i]? with
  | some (some (true, _)) => false
  | some _ => true
  | none => false
def wipeE (e : En) : List Nat → En
  | [] => e
  | v :: vs => (wipeE e vs).set v none
/-- the slots vs as they stand in e0 -/
def backE (e0 e : En) : List Nat → En
  | [] => e
  | v :: vs => (backE e0 e vs).set v ((e0[v]?).getD none)
def allT : List T → T
  | [], e => .ok true e
  | t :: ts, e => (t e).bind fun b e1 => if b then allT ts e1 else .ok false e1
/-- no exception leaves a comprehension here -/
def Re.calm {α : Type} : Re α → Re α
  | .exc _ _ => .bad
  | r => r
def lcTurn (own : List Nat) (tg : Tg) (ts : List T) (elt : X) (d : D) (acc : List D) (e : En) : Re (List D) :=
  match tg.put d e with
  | none => .bad
  | some e1 => ((allT ts e1).bind fun b e2 => if b then (elt e2).bind fun r e3 => if acc.length < sizeLine then .ok (acc ++ [r.1]) e3 else .bad else .ok acc e2).calm
def lcGo (own : List Nat) (tg : Tg) (ts : List T) (elt : X) : List D → List D → En → Re (List D)
  | [], acc, e => .ok acc e
  | d :: ds, acc, e => (lcTurn own tg ts elt d acc e).bind fun acc1 e1 => lcGo own tg ts elt ds acc1 (wipeE e1 own)
def xLc (own : List Nat) (it : It) (tg : Tg) (ts : List T) (elt : X) : X := fun e =>
  (it.ev e).bind fun ds e1 => if own.all (frozenAt e1) then ((lcGo own tg ts elt ds [] (wipeE e1 own)).bind fun acc e2 => .ok (.list acc, true) (backE e1 e2 own)) else .bad
/-- two for clauses, the tests behind the second -/
def lc2Go (own : List Nat) (tg : Tg) (own2 : List Nat) (it2 : It) (tg2 : Tg) (ts : List T) (elt : X) : List D → List D → En → Re (List D)
  | [], acc, e => .ok acc e
  | d :: ds, acc, e => match tg.put d e with
    | none => .bad
    | some e1 => (it2.ev e1).calm.bind fun xs e2 => (lcGo own2 tg2 ts elt xs acc (wipeE e2 own2)).bind fun acc1 e3 => lc2Go own tg own2 it2 tg2 ts elt ds acc1 (wipeE e3 own)
def xLc2 (own : List Nat) (it : It) (tg : Tg) (own2 : List Nat) (it2 : It) (tg2 : Tg) (ts : List T) (elt : X) : X := fun e =>
  (it.ev e).bind fun ds e1 => if own.all (frozenAt e1) then ((lc2Go own tg own2 it2 tg2 ts elt ds [] (wipeE e1 own)).bind fun acc e2 => .ok (.list acc, true) (backE e1 e2 own)) else .bad
/-! dicts -/
def flatK : D → Bool
  | .int _ => true
  | .str _ => true
  | _ => false
def tupK : D → Bool
  | .tuple ks => ks.all flatK
  | _ => false
/-- the key suits the dict's keys -/
def kFits (kvs : List (D × D)) (k : D) : Bool := (flatK k && kvs.all fun p => flatK p.1) || (tupK k && kvs.all fun p => tupK p.1)
def dLook (kvs : List (D × D)) (k : D) : Option D := (kvs.find? fun p => PyData.eqv p.1 k).map (·.2)
def dPut (kvs : List (D × D)) (k v : D) : List (D × D) := if (kvs.any fun p => PyData.eqv p.1 k) = true then kvs.map fun p => if PyData.eqv p.1 k = true then (p.1, v) else p else kvs ++ [(k, v)]
def dcTurn (own : List Nat) (tg : Tg) (kx vx : X) (d : D) (acc : List (D × D)) (e : En) : Re (List (D × D)) :=
  match tg.put d e with
  | none => .bad
  | some e1 => ((kx e1).bind fun k e2 => (vx e2).bind fun v e3 => if flatK k.1 && decide (acc.length < sizeLine) && acc.all (fun p => flatK p.1) then .ok (dPut acc k.1 v.1) e3 else .bad).calm
def dcGo (own : List Nat) (tg : Tg) (kx vx : X) : List D → List (D × D) → En → Re (List (D × D))
  | [], acc, e => .ok acc e
  | d :: ds, acc, e => (dcTurn own tg kx vx d acc e).bind fun acc1 e1 => dcGo own tg kx vx ds acc1 (wipeE e1 own)
def xDc (own : List Nat) (it : It) (tg : Tg) (kx vx : X) : X := fun e =>
  (it.ev e).bind fun ds e1 => if own.all (frozenAt e1) then ((dcGo own tg kx vx ds [] (wipeE e1 own)).bind fun acc e2 => .ok (.dict acc, true) (backE e1 e2 own)) else .bad
/-- {k: v}, flat keys, at most fifteen -/
def evKVs : List (X × X) → En → Re (List (D × D))
  | [], e => .ok [] e
  | (k, v) :: r, e => (k e).bind fun a e1 => (v e1).bind fun b e2 => (evKVs r e2).bind fun ps e3 => .ok ((a.1, b.1) :: ps) e3
def xDict (ps : List (X × X)) : X := fun e => (evKVs ps e).bind fun kvs e1 => if kvs.all fun p => flatK p.1 then .ok (.dict (kvs.foldl (fun acc p => dPut acc p.1 p.2) []), true) e1 else .bad
/-! methods that change a variable's object -/
def small63 (i : Int) : Bool := decide (-(2 ^ 63) ≤ i) && decide (i < 2 ^ 63)
def isListAt (e : En) (i : Nat) : Bool := match e[i]? with
  | some (some (_, .list _)) => true
  | _ => false
def xAppend (i : Nat) (m : X) : X := fun e => if isListAt e i then (m e).bind fun r e1 => (match e1[i]? with
  | some (some (true, .list xs)) => if xs.length < sizeLine then .ok (.none, false) (e1.set i (some (true, .list (xs ++ [r.1])))) else .bad
  | _ => .bad) else .bad
def xExtend (i : Nat) (m : X) : X := fun e => if isListAt e i then (m e).bind fun r e1 => (match e1[i]?, r.1 with
  | some (some (true, .list xs)), .list ys => if xs.length + ys.length ≤ sizeLine then .ok (.none, false) (e1.set i (some (true, .list (xs ++ ys)))) else .bad
  | _, _ => .bad) else .bad
def xPop (i : Nat) (p : Pk) : X := fun e => if isListAt e i then (p.ev e).bind fun t e1 => (match tget e1 t, e1[i]? with
  | some (.int k), some (some (true, .list xs)) => if small63 k then (match L2.ixN xs.length k with
    | some j => (match xs[j]? with
      | some y => .ok (y, false) (e1.set i (some (true, .list (xs.eraseIdx j))))
      | none => .bad)
    | none => .bad) else .bad
  | _, _ => .bad) else .bad
def xPop0 (i : Nat) : X := fun e1 => match e1[i]? with
  | some (some (true, .list xs)) => (match xs[xs.length - 1]? with
    | some y => .ok (y, false) (e1.set i (some (true, .list xs.dropLast)))
    | none => .bad)
  | _ => .bad
/-! statements -/
inductive Fl where
  | next
  | ret (d : D) (fr : Bool)
abbrev S := En → Re Fl
def sNil : S := fun e => .ok .next e
def sSeq (a b : S) : S := fun e => (a e).bind fun f e1 => match f with
  | .next => b e1
  | .ret d fr => .ok (.ret d fr) e1
def sExpr (m : X) : S := fun e => (m e).bind fun _ e1 => .ok .next e1
def sRet (m : X) : S := fun e => (m e).bind fun r e1 => .ok (.ret r.1 r.2) e1
def sRetN : S := fun e => .ok (.ret .none false) e
def sIf (t : T) (a b : S) : S := fun e => (t e).bind fun c e1 => if c then a e1 else b e1
def sAsg (i : Nat) (m : X) : S := fun e => (m e).bind fun r e1 => .ok .next (e1.set i (some (r.2, r.1)))
def sUnp (tg : Tg) (m : X) : S := fun e => (m e).bind fun r e1 => match tg.put r.1 e1 with
  | some e2 => .ok .next e2
  | none => .bad
def evFs : List X → En → Re (List (D × Bool))
  | [], e => .ok [] e
  | m :: ms, e => (m e).bind fun r e1 => (evFs ms e1).bind fun ds e2 => .ok (r :: ds) e2
def setAll : List Nat → List (D × Bool) → En → En
  | i :: is, r :: rs, e => setAll is rs (e.set i (some (r.2, r.1)))
  | _, _, e => e
def sPar (is : List Nat) (ms : List X) : S := fun e => (evFs ms e).bind fun rs e1 => .ok .next (setAll is rs e1)
def sAug (i : Nat) (m : X) : S := fun e => match e[i]? with
  | some (some (_, .int a)) => (m e).bind fun r e1 => (match r.1 with
    | .int b => .ok .next (e1.set i (some (false, .int (a + b))))
    | _ => .bad)
  | _ => .bad
/-- x[k] = v, x a variable's own list or dict -/
def isSetAt (e : En) (i : Nat) : Bool := match e[i]? with
  | some (some _) => true
  | _ => false
def sPutI (i : Nat) (k : Pk) (m : X) : S := fun e => (m e).bind fun r e1 => if isSetAt e1 i then (k.ev e1).bind fun t e2 => (match tget e2 t, e2[i]? with
  | some (.int n), some (some (true, .list xs)) => (match L2.ixN xs.length n with
    | some j => .ok .next (e2.set i (some (true, .list (xs.set j r.1))))
    | none => .bad)
  | some key, some (some (true, .dict kvs)) => if kFits kvs key && decide (kvs.length < sizeLine) then .ok .next (e2.set i (some (true, .dict (dPut kvs key r.1)))) else .bad
  | _, _ => .bad) else .bad
def forGo (tg : Tg) (b : S) : List D → En → Re Fl
  | [], e => .ok .next e
  | d :: ds, e => match tg.put d e with
    | none => .bad
    | some e1 => (b e1).bind fun f e2 => match f with
      | .next => forGo tg b ds e2
      | .ret x fr => .ok (.ret x fr) e2
def sFor (it : It) (tg : Tg) (b : S) : S := fun e => (it.ev e).bind fun ds e1 => forGo tg b ds e1
def whileGo (t : T) (b : S) : Nat → S
  | 0, _ => .bad
  | n + 1, e => (t e).bind fun c e1 => if c then (b e1).bind fun f e2 => (match f with
    | .next => whileGo t b n e2
    | .ret x fr => .ok (.ret x fr) e2) else .ok .next e1
def wFuel : Nat := 1000000
def sWhile (t : T) (b : S) : S := whileGo t b wFuel
def sRaise (c : Str) : S := fun e => .exc c e
/-- handlers: the names that each one takes, what it returns -/
def sTry (b : S) (hs : List (List Str × D)) : S := fun e => match b e with
  | .exc c e1 => (match hs.find? fun h => decide (c ∈ h.1) with
    | some h => .ok (.ret h.2 false) e1
    | none => .exc c e1)
  | r => r
/-- a def's body: parameters, io slots, number of slots -/
def outsOf (e : En) : List Nat → Option (List D)
  | [] => some []
  | i :: is => match e[i]?, outsOf e is with
    | some (some (true, d)), some ds => some (d :: ds)
    | _, _ => none
def startE (n : Nat) (io : List Bool) (ds : List D) : En := (io.zip ds).map (fun p => some (p.1, p.2)) ++ List.replicate (n - ds.length) none
def ioSlots (k : Nat) : List Bool → List Nat
  | [] => []
  | true :: r => k :: ioSlots (k + 1) r
  | false :: r => ioSlots (k + 1) r
def fnBody (n : Nat) (io : List Bool) (b : S) : Fn := fun ds => if ds.length = io.length then (match b (startE n io ds) with
  | .ok f e => (match outsOf e (ioSlots 0 io), f with
    | some os, .next => .ok .none false os
    | some os, .ret d fr => .ok d fr os
    | none, _ => .bad)
  | .exc c _ => .exc c
  | .bad => .bad) else .bad
end G6

namespace G6
open PySem PySem.W
/-! ### what the operators and built-ins give -/
def shal (a b : D) : Bool := decide (min a.depth b.depth ≤ 60)
def small64 (i : Int) : Bool := decide (-(2 ^ 64) < i) && decide (i < 2 ^ 64)
def isNone : D → Bool
  | .none => true
  | _ => false
def pAdd : Pr
  | [.int i, .int j] => some (.int (i + j), false)
  | [.str a, .str b] => if a.length + b.length ≤ sizeLine then some (.str (a ++ b), false) else none
  | [.list a, .list b] => if a.length + b.length ≤ sizeLine then some (.list (a ++ b), true) else none
  | [.tuple a, .tuple b] => if a.length + b.length ≤ sizeLine then some (.tuple (a ++ b), false) else none
  | _ => none
def pSub : Pr
  | [.int i, .int j] => some (.int (i - j), false)
  | _ => none
def pMul : Pr
  | [.int i, .int j] => if small64 i || small64 j then some (.int (i * j), false) else none
  | [.list a, .int k] => if small63 k && decide (a.length * k.toNat ≤ sizeLine) then some (.list (List.replicate k.toNat a).flatten, true) else none
  | [.tuple a, .int k] => if decide (a.length ≤ 1000) && decide (1 ≤ k) && decide (k ≤ 1000) then some (.tuple (List.replicate k.toNat a).flatten, false) else none
  | _ => none
def pDiv : Pr
  | [.int i, .int j] => if decide (j ≠ 0) && decide (j.natAbs < 1073741824) then some (.int (i.fdiv j), false) else none
  | _ => none
def pMod : Pr
  | [.int i, .int j] => if j = 0 then none else some (.int (i.fmod j), false)
  | _ => none
def pNeg : Pr
  | [.int i] => some (.int (-i), false)
  | _ => none
def pEq : Pr
  | [a, b] => if a.plain && b.plain && shal a b then some (.bool (PyData.eqv a b), false) else none
  | _ => none
def pNe : Pr
  | [a, b] => if a.plain && b.plain && shal a b then some (.bool (!PyData.eqv a b), false) else none
  | _ => none
def cmpOk (a b : D) : Bool := a.plain && b.plain && alike a b && !isNone a && shal a b
def pLt : Pr
  | [a, b] => if cmpOk a b then some (.bool (dataLt a b), false) else none
  | _ => none
def pLe : Pr
  | [a, b] => if cmpOk a b then some (.bool (!dataLt b a), false) else none
  | _ => none
def pGt : Pr
  | [a, b] => if cmpOk a b then some (.bool (dataLt b a), false) else none
  | _ => none
def pGe : Pr
  | [a, b] => if cmpOk a b then some (.bool (!dataLt a b), false) else none
  | _ => none
def inOk (x : D) (xs : List D) : Bool := x.plain && PyData.plainAll xs && decide (min (PyData.depthAll xs) x.depth ≤ 60)
def pIn : Pr
  | [x, .list xs] => if inOk x xs then some (.bool (xs.any fun y => PyData.eqv y x), false) else none
  | [x, .tuple xs] => if inOk x xs then some (.bool (xs.any fun y => PyData.eqv y x), false) else none
  | [x, .dict kvs] => if kFits kvs x then some (.bool (dLook kvs x).isSome, false) else none
  | _ => none
def pNin : Pr
  | [x, .list xs] => if inOk x xs then some (.bool (!xs.any fun y => PyData.eqv y x), false) else none
  | [x, .tuple xs] => if inOk x xs then some (.bool (!xs.any fun y => PyData.eqv y x), false) else none
  | [x, .dict kvs] => if kFits kvs x then some (.bool (!(dLook kvs x).isSome), false) else none
  | _ => none
def pIs : Pr
  | [x, .none] => some (.bool (isNone x), false)
  | [.bool a, .bool b] => some (.bool (decide (a = b)), false)
  | _ => none
def pIsn : Pr
  | [x, .none] => some (.bool (!isNone x), false)
  | [.bool a, .bool b] => some (.bool (!decide (a = b)), false)
  | _ => none
def pIx : Pr
  | [.list xs, .int i] => (L2.atI xs i).map fun d => (d, false)
  | [.tuple xs, .int i] => (L2.atI xs i).map fun d => (d, false)
  | [.dict kvs, k] => if kFits kvs k then (dLook kvs k).map fun d => (d, false) else none
  | _ => none
def cutL {α : Type} (xs : List α) (lo hi : Option Int) : List α := (xs.drop (HT.sIx xs.length 0 lo)).take (HT.sIx xs.length xs.length hi - HT.sIx xs.length 0 lo)
def pCut (d : D) (lo hi : Option Int) : Option (D × Bool) := match d with
  | .list xs => some (.list (cutL xs lo hi), true)
  | .tuple xs => some (.tuple (cutL xs lo hi), false)
  | _ => none
def pRev : Pr
  | [.list xs] => some (.list xs.reverse, true)
  | [.tuple xs] => some (.tuple xs.reverse, false)
  | _ => none
def pLen : Pr
  | [.list xs] => some (.int xs.length, false)
  | [.tuple xs] => some (.int xs.length, false)
  | [.dict kvs] => some (.int kvs.length, false)
  | [.str s] => if s.length ≤ sizeLine then some (.int s.length, false) else none
  | _ => none
def pAbs : Pr
  | [.int i] => some (.int (if i < 0 then -i else i), false)
  | _ => none
def allAlike (xs : List D) : Bool := xs.all fun x => xs.all fun y => alike x y
def intsOf : List D → Option (List Int)
  | [] => some []
  | .int i :: r => (intsOf r).map (i :: ·)
  | _ => none
def pMax1 : Pr
  | [.list xs] => (match intsOf xs with
    | some (n :: ns) => some (.int (ns.foldl max n), false)
    | _ => none)
  | [.tuple xs] => (match intsOf xs with
    | some (n :: ns) => some (.int (ns.foldl max n), false)
    | _ => none)
  | _ => none
def pMin1 : Pr
  | [.list xs] => (match intsOf xs with
    | some (n :: ns) => some (.int (ns.foldl min n), false)
    | _ => none)
  | [.tuple xs] => (match intsOf xs with
    | some (n :: ns) => some (.int (ns.foldl min n), false)
    | _ => none)
  | _ => none
def pMax2 : Pr
  | [.int i, .int j] => some (.int (if j > i then j else i), false)
  | [.str a, .str b] => some (.str (if dataLt (.str a) (.str b) then b else a), false)
  | _ => none
def pMin2 : Pr
  | [.int i, .int j] => some (.int (if j < i then j else i), false)
  | [.str a, .str b] => some (.str (if dataLt (.str b) (.str a) then b else a), false)
  | _ => none
def pSum : Pr
  | [.list xs] => (intsOf xs).map fun ns => (.int ns.sum, false)
  | _ => none
def blsOf : List D → Option (List Bool)
  | [] => some []
  | .bool b :: r => (blsOf r).map (b :: ·)
  | _ => none
def pAll : Pr
  | [.list xs] => (blsOf xs).map fun bs => (.bool (bs.all id), false)
  | _ => none
def pAny : Pr
  | [.list xs] => (blsOf xs).map fun bs => (.bool (bs.any id), false)
  | _ => none
def isTup1 : D → Bool
  | .tuple (_ :: _) => true
  | _ => false
def notTup : D → Bool
  | .tuple _ => false
  | .none => false
  | _ => true
def isE1 : List D → Bool
  | [.tuple []] => true
  | _ => false
def sortOk (xs : List D) : Bool := PyData.plainAll xs && allAlike xs && (xs.all isTup1 || xs.all notTup || isE1 xs) && xs.all (fun x => decide (x.depth ≤ 60))
def sortD (xs : List D) : List D := xs.mergeSort (dataLe false fun d : D => d)
def pSorted : Pr
  | [.list xs] => if sortOk xs then some (.list (sortD xs), true) else none
  | [.tuple xs] => if sortOk xs then some (.list (sortD xs), true) else none
  | [.dict kvs] => if sortOk (kvs.map (·.1)) then some (.list (sortD (kvs.map (·.1))), true) else none
  | _ => none
/-- the items without those that came before -/
def dedup : List D → List D
  | [] => []
  | x :: xs => x :: (dedup xs).filter fun y => !PyData.eqv y x
def isStrD : D → Bool
  | .str _ => true
  | _ => false
def isStrs : D → Bool
  | .tuple (x :: xs) => isStrD x && xs.all isStrD
  | _ => false
/-- what a set is made of here: tuples of texts, few -/
def setOk (xs : List D) : Bool := xs.all isStrs && decide (xs.length < 64)
def pSortedSet : Pr
  | [.list xs] => if setOk xs && sortOk (dedup xs) then some (.list (sortD (dedup xs)), true) else none
  | [.tuple xs] => if setOk xs && sortOk (dedup xs) then some (.list (sortD (dedup xs)), true) else none
  | _ => none
def pLenSet : Pr
  | [.list xs] => if setOk xs then some (.int (dedup xs).length, false) else none
  | [.tuple xs] => if setOk xs then some (.int (dedup xs).length, false) else none
  | _ => none
def pDictZip : Pr
  | [a, b] => (match seqD a, seqD b with
    | some xs, some ys => if decide (xs.length ≤ 1000) && decide (ys.length ≤ 1000) && xs.all flatK then some (.dict ((xs.zip ys).foldl (fun acc p => dPut acc p.1 p.2) []), true) else none
    | _, _ => none)
  | _ => none
def pList : Pr
  | [.list xs] => some (.list xs, true)
  | [.tuple xs] => some (.list xs, true)
  | [.dict kvs] => some (.list (kvs.map (·.1)), true)
  | _ => none
def pTuple : Pr
  | [.list xs] => some (.tuple xs, false)
  | [.tuple xs] => some (.tuple xs, false)
  | [.str s] => if s.length ≤ 1000 then some (.tuple (chars s), false) else none
  | _ => none
def pInt : Pr
  | [.int i] => some (.int i, false)
  | [.bool b] => some (.int (if b then 1 else 0), false)
  | _ => none
def pStr : Pr
  | [.int i] => if i.natAbs.log2 < 1920 then some (.str (toString i), false) else none
  | _ => none
inductive Ty where
  | int | bool | str | tuple | list
def pIsi (t : Ty) : Pr
  | [d] => if d.plain = false then none else some (.bool (match t with
    | .int => d.isInt
    | .bool => d.isBool
    | .str => d.isStr
    | .tuple => d.isTuple
    | .list => d.isList), false)
  | _ => none
def pGet1 : Pr
  | [.dict kvs, k] => if kFits kvs k then some ((dLook kvs k).getD .none, false) else none
  | _ => none
def noBox : D → Bool
  | .list _ => false
  | .dict _ => false
  | _ => true
def pGet2 : Pr
  | [.dict kvs, k, z] => if kFits kvs k && noBox z then some ((dLook kvs k).getD z, false) else none
  | _ => none
/-- a dict's method that only looks -/
def xGet (f : Pr) (p : Pk) (ks : List Pk) : X := fun e => (p.ev e).bind fun t e1 => match tget e1 t with
  | some (.dict _) => (evPks ks e1).bind fun ts e2 => (match tgets e2 (t :: ts) with
    | some ds => (match f ds with
      | some r => .ok r e2
      | none => .bad)
    | none => .bad)
  | _ => .bad
/-! a slice -/
def evI : Option Pk → En → Re (Option Int)
  | none, e => .ok none e
  | some p, e => (p.ev e).bind fun t e1 => match tget e1 t with
    | some (.int i) => .ok (some i) e1
    | _ => .bad
def xCut (p : Pk) (lo hi : Option Pk) : X := fun e => (p.ev e).bind fun t e1 => (evI lo e1).bind fun i e2 => (evI hi e2).bind fun j e3 =>
  match tget e3 t with
  | some d => (match pCut d i j with
    | some r => .ok r e3
    | none => .bad)
  | none => .bad
/-! ### names -/
inductive Bi where
  | len | abs | max1 | max2 | min1 | min2 | sum | all | any | sorted | list | tuple | int | str
def Bi.pr : Bi → Pr
  | .len => pLen
  | .abs => pAbs
  | .max1 => pMax1
  | .max2 => pMax2
  | .min1 => pMin1
  | .min2 => pMin2
  | .sum => pSum
  | .all => pAll
  | .any => pAny
  | .sorted => pSorted
  | .list => pList
  | .tuple => pTuple
  | .int => pInt
  | .str => pStr
def biTab : List (Str × Nat × Bi) := [("len", 1, .len), ("abs", 1, .abs), ("max", 1, .max1), ("max", 2, .max2), ("min", 1, .min1), ("min", 2, .min2), ("sum", 1, .sum), ("all", 1, .all), ("any", 1, .any),
  ("sorted", 1, .sorted), ("list", 1, .list), ("tuple", 1, .tuple), ("int", 1, .int), ("str", 1, .str)]
def biOf (x : Str) (n : Nat) : Option Bi := (biTab.find? fun t => decide (t.1 = x) && t.2.1 == n).map (·.2.2)
def tyTab : List (Str × Ty) := [("int", .int), ("bool", .bool), ("str", .str), ("tuple", .tuple), ("list", .list)]
def tyOf (x : Str) : Option Ty := (tyTab.find? fun t => decide (t.1 = x)).map (·.2)
/-- what the text of a def leans on: its slots' names, the scope of the block, the defs (which parameters they may change; what they give), the built-in names that stand for the built-ins,
  the names whose cells the block made, the slots that must not be stored to, the exceptions and what a clause takes -/
structure SC where
  N : List Str
  sc : Scope
  io : Str → Option (List Bool)
  fn : Str → Fn
  bl : Str → Bool
  fnB : Str → Bool
  ios : List Nat
  ex : Str → Bool
  sub : Str → List Str
  loops : Bool := true
def kindIn (c : SC) (x : Str) : Option NameKind := c.sc.names.lookup x
def isVis (c : SC) (x : Str) : Bool := match kindIn c x with
  | some .local => true
  | some .cell => true
  | some .free => true
  | _ => false
def isLoc (c : SC) (x : Str) : Bool := match kindIn c x with
  | some .local => true
  | some .cell => c.fnB x
  | _ => false
def isGlo (c : SC) (x : Str) : Bool := match kindIn c x with
  | some .globalImplicit => true
  | _ => false
def plainName (x : Str) : Bool := !(x == ("__debug__" : Str)) && !(x == ("__classdict__" : Str)) && !(x == ("__name__" : Str))
def slotOf (c : SC) (x : Str) : Option Nat := if isVis c x && plainName x then c.N.findIdx? (· == x) else none
/-- a slot to store to -/
def storeOf (c : SC) (x : Str) : Option Nat := if isLoc c x && plainName x then (c.N.findIdx? (· == x)).bind fun i => if c.ios.contains i then none else some i else none
/-- the name is a built-in's -/
def isBlt (c : SC) (x : Str) : Bool := isGlo c x && c.bl x && plainName x
def opPr : Operator → Option Pr
  | .Add => some pAdd
  | .Sub => some pSub
  | .Mult => some pMul
  | .FloorDiv => some pDiv
  | .Mod => some pMod
  | _ => none
def cmPr : CmpOp → Option Pr
  | .Eq => some pEq
  | .NotEq => some pNe
  | .Lt => some pLt
  | .LtE => some pLe
  | .Gt => some pGt
  | .GtE => some pGe
  | .In => some pIn
  | .NotIn => some pNin
  | .Is => some pIs
  | .IsNot => some pIsn
def notStar : Expr → Bool
  | .Starred _ _ => false
  | _ => true
/-- an expression of a form that PlainIx serves -/
def plainSub : Expr → Bool
  | .Slice _ _ _ _ => false
  | .Starred _ _ => false
  | _ => true
def notSet : Expr → Bool
  | .Set _ _ _ => false
  | _ => true
def notCall : Expr → Bool
  | .Call _ _ _ _ => false
  | _ => true
abbrev RE := SC → Expr → Option X
def compP (r : RE) (c : SC) (e : Expr) : Option Pk := match e with
  | .Name x _ => (slotOf c x).map .nm
  | _ => (r c e).map .ex
def mapO {α β : Type} (f : α → Option β) : List α → Option (List β)
  | [] => some []
  | a :: as => (f a).bind fun b => (mapO f as).bind fun bs => some (b :: bs)
def compPs (r : RE) (c : SC) (es : List Expr) : Option (List Pk) := mapO (fun e => if notStar e then compP r c e else none) es
def compXs (r : RE) (c : SC) (es : List Expr) : Option (List X) := mapO (fun e => if notStar e then r c e else none) es
def compCmp (r : RE) (c : SC) (a : Expr) (ops : List CmpOp) (bs : List Expr) : Option X := match ops, bs with
  | [op], [b] => if notSet b then (cmPr op).bind fun f => (compP r c a).bind fun p => (compP r c b).map fun q => xPrim f [p, q] else none
  | [op, op2], [b, b2] => if notSet b && notSet b2 then (cmPr op).bind fun f => (cmPr op2).bind fun g => (compP r c a).bind fun p => (compP r c b).bind fun q => (compP r c b2).map fun s => xCmp2 f g p q s else none
  | _, _ => none
def andAll : List X → Option X
  | [] => none
  | [m] => some m
  | m :: ms => (andAll ms).map (xAnd m)
def orAll : List X → Option X
  | [] => none
  | [m] => some m
  | m :: ms => (orAll ms).map (xOr m)
def tAll : List T → Option T
  | [] => none
  | [t] => some t
  | t :: ts => (tAll ts).map (tAnd t)
def tAny : List T → Option T
  | [] => none
  | [t] => some t
  | t :: ts => (tAny ts).map (tOr t)
/-- tests -/
def compT (r : RE) (c : SC) : Nat → Expr → Option T
  | 0, _ => none
  | n + 1, e => match e with
    | .UnaryOp .Not x _ => (compT r c n x).map tNot
    | .BoolOp op es _ => (mapO (compT r c n) es).bind fun ts => (match op with
      | .And => tAll ts
      | .Or => tAny ts)
    | .IfExp _ _ _ _ => none
    | .Compare a ops bs _ => (compCmp r c a ops bs).map tCmp
    | _ => (compP r c e).map tVal
def compAr (r : RE) (c : SC) : List Bool → List Expr → Option (List Ar)
  | [], [] => some []
  | false :: io, e :: es => if notStar e then (r c e).bind fun m => (compAr r c io es).bind fun as => some (.v m :: as) else none
  | true :: io, e :: es => (match e with
    | .Name x _ => (slotOf c x).bind fun i => (compAr r c io es).bind fun as => some (.io i :: as)
    | .Starred _ _ => none
    | _ => (r c e).bind fun m => (match io, es with
      | [], [] => some [.tmp m]
      | _, _ => none))
  | _, _ => none
def ioOf : List Ar → List Nat
  | [] => []
  | .io i :: r => i :: ioOf r
  | _ :: r => ioOf r
def nodupB : List Nat → Bool
  | [] => true
  | x :: xs => !xs.contains x && nodupB xs
mutual
def compTg (c : SC) : Nat → Expr → Option Tg
  | 0, _ => none
  | n + 1, e => match e with
    | .Name x _ => (storeOf c x).map .nm
    | .Tuple es _ _ => (compTgs c n es).map .tup
    | _ => none
def compTgs (c : SC) : Nat → List Expr → Option (List Tg)
  | _, [] => some []
  | 0, _ => none
  | n + 1, e :: es => (compTg c n e).bind fun t => (compTgs c n es).bind fun ts => some (t :: ts)
end
def isTupT : Tg → Bool
  | .tup _ => true
  | _ => false
/-- what is walked, for a target that is a name or a tuple -/
def compIt (r : RE) (c : SC) (tup : Bool) (e : Expr) : Option It := match e with
  | .Call (.Name f p) args kws pos =>
    if isBlt c f then
      if f = ("range" : Str) then (match args, kws with
        | [a], [] => (compPs r c [a]).bind fun ps => (match ps with
          | [x] => some (.rng1 x)
          | _ => none)
        | [a, b], [] => (compPs r c [a, b]).bind fun ps => (match ps with
          | [x, y] => some (.rng2 x y)
          | _ => none)
        | _, _ => none)
      else if f = ("zip" : Str) then (match args, kws with
        | [a, b], [] => if tup then (compXs r c [a, b]).bind fun ms => (match ms with
          | [x, y] => some (.zip x y)
          | _ => none) else none
        | _, _ => none)
      else if f = ("enumerate" : Str) then (match args, kws with
        | [.Call (.Name g gp) gargs gkws gpos], [] => if tup then (if isBlt c g && decide (g = ("zip" : Str)) then (match gargs, gkws with
            | [a, b], [] => (compXs r c [a, b]).bind fun ms => (match ms with
              | [x, y] => some (.enumZip x y)
              | _ => none)
            | _, _ => none)
          else (r c (.Call (.Name g gp) gargs gkws gpos)).map .enum) else none
        | [a], [] => if tup && notStar a then (r c a).map .enum else none
        | _, _ => none)
      else (r c (.Call (.Name f p) args kws pos)).map .val
    else (r c (.Call (.Name f p) args kws pos)).map .val
  | .Call (.Attribute o m ap) [] [] pos => if m = ("items" : Str) then (if tup then (r c o).map .items else none) else (r c (.Call (.Attribute o m ap) [] [] pos)).map .val
  | .Set _ _ _ => none
  | e => (r c e).map .val
/-- the slots of a comprehension's own names -/
def ownOf (c : SC) (scope : Scope) : List (Str × Nat) := scope.names.filterMap fun y => match y.2 with
  | .local => (c.N.findIdx? (· == y.1)).map fun i => (y.1, i)
  | .cell => (c.N.findIdx? (· == y.1)).map fun i => (y.1, i)
  | _ => none
def inner (c : SC) (scope : Scope) : SC := { c with sc := L2.relS scope c.sc, fnB := fun x => scope.names.lookup x == some .cell, loops := false }
mutual
def Tg.slots : Tg → List Nat
  | .nm i => [i]
  | .tup ts => slotsAll ts
def slotsAll : List Tg → List Nat
  | [] => []
  | t :: ts => t.slots ++ slotsAll ts
end
def compLc (r : RE) (c : SC) (elt : Expr) (gens : List Comprehension) (scope : Scope) : Option X :=
  let c1 := inner c scope
  let own := ownOf c scope
  if L2.blkC c.N c.sc scope own then (match gens with
    | [⟨tg, it, ifs, 0⟩] => (compTg c1 8 tg).bind fun t => if t.slots.all (fun i => (own.map (·.2)).contains i) then (compIt r c (isTupT t) it).bind fun i => (match ifs with
      | [] => (r c1 elt).bind fun m => some (xLc (own.map (·.2)) i t [] m)
      | [x] => (compT (r) c1 20 x).bind fun u => (r c1 elt).bind fun m => some (xLc (own.map (·.2)) i t [u] m)
      | _ => none) else none
    | [⟨tg, it, [], 0⟩, ⟨tg2, it2, ifs, 0⟩] => (compTg c1 8 tg).bind fun t => (compTg c1 8 tg2).bind fun t2 =>
      if t.slots.all (fun i => (own.map (·.2)).contains i && !t2.slots.contains i) && t2.slots.all (fun i => (own.map (·.2)).contains i) then
        (compIt r c (isTupT t) it).bind fun i => (compIt r c1 (isTupT t2) it2).bind fun i2 => (match ifs with
          | [] => (r c1 elt).bind fun m => some (xLc2 (own.map (·.2)) i t t2.slots i2 t2 [] m)
          | [x] => (compT (r) c1 20 x).bind fun u => (r c1 elt).bind fun m => some (xLc2 (own.map (·.2)) i t t2.slots i2 t2 [u] m)
          | _ => none) else none
    | _ => none) else none
def compDc (r : RE) (c : SC) (k v : Expr) (gens : List Comprehension) (scope : Scope) : Option X :=
  let c1 := inner c scope
  let own := ownOf c scope
  if L2.blkC c.N c.sc scope own then (match gens with
    | [⟨tg, it, [], 0⟩] => (compTg c1 8 tg).bind fun t => if t.slots.all (fun i => (own.map (·.2)).contains i) then (compIt r c (isTupT t) it).bind fun i => (r c1 k).bind fun a => (r c1 v).bind fun b => some (xDc (own.map (·.2)) i t a b) else none
    | _ => none) else none
def compKVs (r : RE) (c : SC) : List (Option Expr) → List Expr → Option (List (X × X))
  | [], [] => some []
  | some k :: ks, v :: vs => (r c k).bind fun a => (r c v).bind fun b => (compKVs r c ks vs).bind fun ps => some ((a, b) :: ps)
  | _, _ => none
/-- calls by a name -/
def compCall (r : RE) (c : SC) (f : Str) (args : List Expr) : Option X :=
  if isBlt c f then
    if f = ("isinstance" : Str) then (match args with
      | [a, .Name t _] => if isBlt c t then (if notStar a then tyOf t else none).bind fun ty => (compP r c a).map fun p => xPrim (pIsi ty) [p] else none
      | _ => none)
    else (match args with
      | [.Call (.Name g gp) gargs [] gpos] => if isBlt c g && (decide (g = ("set" : Str)) && (decide (f = ("sorted" : Str)) || decide (f = ("len" : Str)))) then (match gargs with
          | [a] => (compPs r c [a]).map fun ps => xPrim (if f = ("sorted" : Str) then pSortedSet else pLenSet) ps
          | _ => none)
        else if isBlt c g && (decide (g = ("zip" : Str)) && decide (f = ("dict" : Str))) then (match gargs with
          | [a, b] => (compPs r c [a, b]).map fun ps => xPrim pDictZip ps
          | _ => none)
        else (biOf f 1).bind fun b => (compPs r c args).map fun ps => xPrim b.pr ps
      | _ => (biOf f args.length).bind fun b => (compPs r c args).map fun ps => xPrim b.pr ps)
  else if isGlo c f && plainName f then (c.io f).bind fun io => (compAr r c io args).bind fun as => if nodupB (ioOf as) then some (xCall (c.fn f) as) else none
  else none
def compMeth (r : RE) (c : SC) (o : Expr) (m : Str) (args : List Expr) : Option X :=
  if m = ("get" : Str) then (if notCall o then compP r c o else none).bind fun p => (match args with
    | [k] => (compPs r c [k]).map fun ps => xGet pGet1 p ps
    | [k, z] => (compPs r c [k, z]).map fun ps => xGet pGet2 p ps
    | _ => none)
  else (match o with
    | .Name x _ => (slotOf c x).bind fun i =>
      if m = ("append" : Str) then (match args with
        | [a] => if notStar a then (r c a).map (xAppend i) else none
        | _ => none)
      else if m = ("extend" : Str) then (match args with
        | [a] => if notStar a then (r c a).map (xExtend i) else none
        | _ => none)
      else if m = ("pop" : Str) then (match args with
        | [] => some (xPop0 i)
        | [a] => if notStar a then (compP r c a).map (xPop i) else none
        | _ => none)
      else none
    | _ => none)
def stepE (r : RE) : RE := fun c e => match e with
  | .Constant k _ _ => (match k with
    | .none => some (xLit .none)
    | .bool b => some (xLit (.bool b))
    | .int i => some (xLit (.int i))
    | .str s => some (xLit (.str s))
    | _ => none)
  | .Name x _ => (slotOf c x).map xVar
  | .Tuple es _ _ => if es.length ≤ 1000 then (compXs r c es).map xTup else none
  | .List es _ => if es.length ≤ 1000 then (compXs r c es).map xLst else none
  | .BinOp a op b _ => (opPr op).bind fun f => (compP r c a).bind fun p => (compP r c b).map fun q => xPrim f [p, q]
  | .UnaryOp op a _ => (match op with
    | .Not => (compP r c a).map xNot
    | .USub => (compP r c a).map fun p => xPrim pNeg [p]
    | _ => none)
  | .BoolOp op es _ => (mapO (r c) es).bind fun ms => (match op with
    | .And => andAll ms
    | .Or => orAll ms)
  | .IfExp t a b _ => (compT r c 20 t).bind fun u => (r c a).bind fun m => (r c b).map fun n => xIf u m n
  | .Compare a ops bs _ => compCmp r c a ops bs
  | .Subscript a ix _ => (match ix with
    | .Slice lo hi none _ => (compP r c a).bind fun p => (match lo, hi with
      | none, none => none
      | some l, none => (compP r c l).map fun x => xCut p (some x) none
      | none, some h => (compP r c h).map fun y => xCut p none (some y)
      | some l, some h => (compP r c l).bind fun x => (compP r c h).map fun y => xCut p (some x) (some y))
    | .Slice none none (some (.UnaryOp .USub (.Constant (.int 1) _ _) _)) _ => (compP r c a).map fun p => xPrim pRev [p]
    | .Slice _ _ _ _ => none
    | _ => if plainSub ix then (compP r c a).bind fun p => (compP r c ix).map fun q => xPrim pIx [p, q] else none)
  | .Call f args kws pos => (match f, kws with
    | .Name x _, [] => compCall r c x args
    | .Attribute o m ap, [] => if ap.endLine == pos.line then compMeth r c o m args else none
    | _, _ => none)
  | .ListComp elt gens scope _ => compLc r c elt gens scope
  | .DictComp k v gens scope _ => compDc r c k v gens scope
  | .Dict ks vs _ => if ks.length ≤ 15 then (compKVs r c ks vs).map xDict else none
  | _ => none
def compE : Nat → RE
  | 0 => fun _ _ => none
  | n + 1 => stepE (compE n)
/-! statements -/
def namesOf : List Expr → Option (List Str)
  | [] => some []
  | .Name x _ :: r => (namesOf r).map (x :: ·)
  | _ => none
def isComp : Expr → Bool
  | .ListComp _ _ _ _ => true
  | .DictComp _ _ _ _ _ => true
  | .SetComp _ _ _ _ => true
  | _ => false
abbrev RS := SC → Stmt → Option S
def compSs (rs : RS) (c : SC) : List Stmt → Option S
  | [] => some sNil
  | [s] => rs c s
  | s :: ss => (rs c s).bind fun a => (compSs rs c ss).map fun b => sSeq a b
def litOf : Const → Option D
  | .none => some .none
  | .bool b => some (.bool b)
  | .int i => some (.int i)
  | .str s => some (.str s)
  | _ => none
/-- a clause's suite returns a constant -/
def compHs (c : SC) : List ExceptHandler → Option (List (List Str × D))
  | [] => some []
  | .ExceptHandler (some (.Name x _)) none [.Return (some (.Constant k _ _)) _] _ :: r => if isGlo c x && plainName x && c.ex x then (litOf k).bind fun d => (compHs c r).bind fun hs => some ((c.sub x, d) :: hs) else none
  | _ => none
def stepS (re : RE) (rs : RS) : RS := fun c st => match st with
  | .Return none _ => some sRetN
  | .Return (some e) _ => (re c e).map sRet
  | .Expr e _ => if isComp e then none else (re c e).map sExpr
  | .Pass _ => some sNil
  | .If t a b _ => (compT re c 20 t).bind fun u => (compSs rs c a).bind fun x => (compSs rs c b).map fun y => sIf u x y
  | .For tg it body [] _ => if !c.loops then none else (compTg c 8 tg).bind fun t => (compIt re c (isTupT t) it).bind fun i => (compSs rs c body).map fun b => sFor i t b
  | .While t body [] _ => if !c.loops then none else (compT re c 20 t).bind fun u => (compSs rs c body).map fun b => sWhile u b
  | .Assign [tg] e _ => (match tg with
    | .Name x _ => (storeOf c x).bind fun i => (re c e).map fun m => sAsg i m
    | .Tuple ts _ _ => (match e with
      | .Tuple es _ _ => (namesOf ts).bind fun xs => (mapO (storeOf c) xs).bind fun is => if nodupB is && (is.length == es.length && (decide (es.length ≤ 1000) && (es.all (foldedForSure 8) || !es.all (constantsAlone 8)))) then (compXs re c es).map fun ms => sPar is ms else none
      | _ => if isComp e then none else (compTg c 8 tg).bind fun t => (re c e).map fun m => sUnp t m)
    | .Subscript (.Name x _) k _ => if plainSub k && !isComp e then (slotOf c x).bind fun i => (compP re c k).bind fun p => (re c e).map fun m => sPutI i p m else none
    | _ => none)
  | .AugAssign (.Name x _) .Add e _ => (storeOf c x).bind fun i => (re c e).map fun m => sAug i m
  | .Raise (some (.Call (.Name x _) [] [] _)) none _ => if isGlo c x && plainName x && c.ex x then some (sRaise x) else none
  | .Try body (h0 :: hs) [] [] _ => if !c.loops then none else (compSs rs c body).bind fun b => (compHs c (h0 :: hs)).map fun hh => sTry b hh
  | _ => none
def compS (k : Nat) : Nat → RS
  | 0 => fun _ _ => none
  | n + 1 => stepS (compE k) (compS k n)
end G6

/-! G6: how the slots and the objects of the machine stand for the data. -/
namespace G6
open PySem PySem.Spec L2
/-- a dict that may be read: as it is, or locked while it is walked -/
def RdK (G : Hp) (a : Addr) (kvs : List (Key × V)) : Prop := G a = some (.dK kvs) ∨ (kvs ≠ [] ∧ ∃ o, G a = some (.frz o (.dK kvs)))
def RdT (G : Hp) (a : Addr) (kvs : List (List Key × V)) : Prop := G a = some (.dT kvs) ∨ (kvs ≠ [] ∧ ∃ o, G a = some (.frz o (.dT kvs)))
theorem RdK.rd {G : Hp} {a : Addr} {kvs : List (Key × V)} (h : RdK G a kvs) : Rd G a (.dK kvs) := by
  rcases h with h | ⟨_, o, h⟩
  · exact .inl h
  · exact .inr ⟨o, h⟩
theorem RdT.rd {G : Hp} {a : Addr} {kvs : List (List Key × V)} (h : RdT G a kvs) : Rd G a (.dT kvs) := by
  rcases h with h | ⟨_, o, h⟩
  · exact .inl h
  · exact .inr ⟨o, h⟩
theorem RdK.same {G G' : Hp} (s : Same G G') {a : Addr} {kvs : List (Key × V)} (h : RdK G a kvs) : RdK G' a kvs := by
  rcases h with h | ⟨n, o, h⟩
  · exact .inl (s _ _ h)
  · exact .inr ⟨n, o, s _ _ h⟩
theorem RdT.same {G G' : Hp} (s : Same G G') {a : Addr} {kvs : List (List Key × V)} (h : RdT G a kvs) : RdT G' a kvs := by
  rcases h with h | ⟨n, o, h⟩
  · exact .inl (s _ _ h)
  · exact .inr ⟨n, o, s _ _ h⟩
def kD : Key → D
  | .inl i => .int i
  | .inr s => .str s
mutual
/-- v stands for d, read off the objects of G -/
inductive Rp (G : Hp) : V → D → Prop
  | non : Rp G .non .none
  | bl (b : Bool) : Rp G (.bl b) (.bool b)
  | int (i : Int) : Rp G (.int i) (.int i)
  | str (x : Str) : Rp G (.str x) (.str x)
  | lst {a : Addr} {vs : List V} {ds : List D} : Rd G a (.lst vs) → RpAll G vs ds → Rp G (.ref a) (.list ds)
  | tup {a : Addr} {vs : List V} {ds : List D} : G a = some (.tup vs) → RpAll G vs ds → Rp G (.ref a) (.tuple ds)
  | dk {a : Addr} {kvs : List (Key × V)} {ds : List (D × D)} : RdK G a kvs → RpK G kvs ds → Rp G (.ref a) (.dict ds)
  | dt {a : Addr} {kvs : List (List Key × V)} {ds : List (D × D)} : RdT G a kvs → RpT G kvs ds → Rp G (.ref a) (.dict ds)
inductive RpAll (G : Hp) : List V → List D → Prop
  | nil : RpAll G [] []
  | cons {v : V} {vs : List V} {d : D} {ds : List D} : Rp G v d → RpAll G vs ds → RpAll G (v :: vs) (d :: ds)
inductive RpK (G : Hp) : List (Key × V) → List (D × D) → Prop
  | nil : RpK G [] []
  | cons {k : Key} {v : V} {r : List (Key × V)} {d : D} {ds : List (D × D)} : Rp G v d → RpK G r ds → RpK G ((k, v) :: r) ((kD k, d) :: ds)
inductive RpT (G : Hp) : List (List Key × V) → List (D × D) → Prop
  | nil : RpT G [] []
  | cons {k : List Key} {v : V} {r : List (List Key × V)} {d : D} {ds : List (D × D)} : Rp G v d → RpT G r ds → RpT G ((k, v) :: r) ((.tuple (k.map kD), d) :: ds)
end
/-- what the objects of G tell, those of G' tell -/
structure Ext (G G' : Hp) : Prop where
  ls : ∀ a vs, Rd G a (.lst vs) → Rd G' a (.lst vs)
  dk : ∀ a kvs, RdK G a kvs → RdK G' a kvs
  dt : ∀ a kvs, RdT G a kvs → RdT G' a kvs
  tp : ∀ a vs, G a = some (.tup vs) → G' a = some (.tup vs)
  fz : ∀ a o u, G a = some (.frz o u) → G' a = some (.frz o u)
theorem rd_same {G G' : Hp} (h : Same G G') {a : Addr} {u : HO} (r : Rd G a u) : Rd G' a u := by
  rcases r with r | ⟨o, r⟩
  · exact .inl (h _ _ r)
  · exact .inr ⟨o, h _ _ r⟩
theorem Ext.of {G G' : Hp} (h : Same G G') : Ext G G' := ⟨fun _ _ r => rd_same h r, fun _ _ r => r.same h, fun _ _ r => r.same h, fun _ _ r => h _ _ r, fun _ _ _ r => h _ _ r⟩
theorem Ext.refl (G : Hp) : Ext G G := .of (Same.refl G)
theorem Ext.trans {G1 G2 G3 : Hp} (a : Ext G1 G2) (b : Ext G2 G3) : Ext G1 G3 := ⟨fun _ _ r => b.ls _ _ (a.ls _ _ r), fun _ _ r => b.dk _ _ (a.dk _ _ r), fun _ _ r => b.dt _ _ (a.dt _ _ r), fun _ _ r => b.tp _ _ (a.tp _ _ r), fun _ _ _ r => b.fz _ _ _ (a.fz _ _ _ r)⟩
section
variable {G G' : Hp}
mutual
theorem Rp.ext (x : Ext G G') : ∀ {v : V} {d : D}, Rp G v d → Rp G' v d
  | _, _, .non => .non
  | _, _, .bl b => .bl b
  | _, _, .int i => .int i
  | _, _, .str s => .str s
  | _, _, .lst r h => .lst (x.ls _ _ r) (RpAll.ext x h)
  | _, _, .tup r h => .tup (x.tp _ _ r) (RpAll.ext x h)
  | _, _, .dk r h => .dk (x.dk _ _ r) (RpK.ext x h)
  | _, _, .dt r h => .dt (x.dt _ _ r) (RpT.ext x h)
theorem RpAll.ext (x : Ext G G') : ∀ {vs : List V} {ds : List D}, RpAll G vs ds → RpAll G' vs ds
  | _, _, .nil => .nil
  | _, _, .cons h r => .cons (Rp.ext x h) (RpAll.ext x r)
theorem RpK.ext (x : Ext G G') : ∀ {vs : List (Key × V)} {ds : List (D × D)}, RpK G vs ds → RpK G' vs ds
  | _, _, .nil => .nil
  | _, _, .cons h r => .cons (Rp.ext x h) (RpK.ext x r)
theorem RpT.ext (x : Ext G G') : ∀ {vs : List (List Key × V)} {ds : List (D × D)}, RpT G vs ds → RpT G' vs ds
  | _, _, .nil => .nil
  | _, _, .cons h r => .cons (Rp.ext x h) (RpT.ext x r)
end
end
theorem RpAll.length {G : Hp} : ∀ {vs : List V} {ds : List D}, RpAll G vs ds → vs.length = ds.length
  | _, _, .nil => rfl
  | _, _, .cons _ r => by rw [List.length_cons, List.length_cons, r.length]
theorem RpAll.get {G : Hp} : ∀ {vs : List V} {ds : List D} {i : Nat} {d : D}, RpAll G vs ds → ds[i]? = some d → ∃ v, vs[i]? = some v ∧ Rp G v d
  | _, _, _, _, .nil, e => by simp at e
  | _, _, 0, d, .cons h r, e => by simp at e; subst e; exact ⟨_, rfl, h⟩
  | _, _, i + 1, d, .cons h r, e => by
    obtain ⟨v, h1, h2⟩ := r.get (i := i) (d := d) (by simpa using e)
    exact ⟨v, by simpa using h1, h2⟩
theorem RpAll.get' {G : Hp} : ∀ {vs : List V} {ds : List D} {i : Nat} {v : V}, RpAll G vs ds → vs[i]? = some v → ∃ d, ds[i]? = some d ∧ Rp G v d
  | _, _, _, _, .nil, e => by simp at e
  | _, _, 0, d, .cons h r, e => by simp at e; subst e; exact ⟨_, rfl, h⟩
  | _, _, i + 1, d, .cons h r, e => by
    obtain ⟨v, h1, h2⟩ := r.get' (i := i) (v := d) (by simpa using e)
    exact ⟨v, by simpa using h1, h2⟩
theorem RpAll.append {G : Hp} : ∀ {vs ws : List V} {ds es : List D}, RpAll G vs ds → RpAll G ws es → RpAll G (vs ++ ws) (ds ++ es)
  | _, _, _, _, .nil, s => s
  | _, _, _, _, .cons h r, s => .cons h (r.append s)
theorem RpAll.take {G : Hp} : ∀ {vs : List V} {ds : List D} (n : Nat), RpAll G vs ds → RpAll G (vs.take n) (ds.take n)
  | _, _, 0, _ => .nil
  | _, _, _ + 1, .nil => .nil
  | _, _, n + 1, .cons h r => .cons h (r.take n)
theorem RpAll.drop {G : Hp} : ∀ {vs : List V} {ds : List D} (n : Nat), RpAll G vs ds → RpAll G (vs.drop n) (ds.drop n)
  | _, _, 0, h => h
  | _, _, _ + 1, .nil => .nil
  | _, _, n + 1, .cons h r => r.drop n
theorem RpAll.set {G : Hp} {v : V} {d : D} (q : Rp G v d) : ∀ {vs : List V} {ds : List D} (n : Nat), RpAll G vs ds → RpAll G (vs.set n v) (ds.set n d)
  | _, _, _, .nil => .nil
  | _, _, 0, .cons h r => .cons q r
  | _, _, n + 1, .cons h r => .cons h (r.set q n)
theorem RpAll.eraseIdx {G : Hp} : ∀ {vs : List V} {ds : List D} (n : Nat), RpAll G vs ds → RpAll G (vs.eraseIdx n) (ds.eraseIdx n)
  | _, _, _, .nil => .nil
  | _, _, 0, .cons h r => r
  | _, _, n + 1, .cons h r => .cons h (r.eraseIdx n)
theorem RpAll.reverse {G : Hp} : ∀ {vs : List V} {ds : List D}, RpAll G vs ds → RpAll G vs.reverse ds.reverse
  | _, _, .nil => .nil
  | _, _, .cons h r => by rw [List.reverse_cons, List.reverse_cons]; exact r.reverse.append (.cons h .nil)
theorem RpAll.dropLast {G : Hp} {vs : List V} {ds : List D} (h : RpAll G vs ds) : RpAll G vs.dropLast ds.dropLast := by
  rw [List.dropLast_eq_take, List.dropLast_eq_take, h.length]
  exact h.take _
theorem RpAll.rep {G : Hp} {vs : List V} {ds : List D} (h : RpAll G vs ds) : ∀ k : Nat, RpAll G (List.replicate k vs).flatten (List.replicate k ds).flatten
  | 0 => .nil
  | k + 1 => by
    rw [List.replicate_succ, List.replicate_succ, List.flatten_cons, List.flatten_cons]
    exact h.append (h.rep k)
theorem Rp.solid {G : Hp} {a : Addr} {d : D} (h : Rp G (.ref a) d) : ∃ o, G a = some o := by
  cases h with
  | lst r _ => rcases r with r | ⟨o, r⟩ <;> exact ⟨_, r⟩
  | tup r _ => exact ⟨_, r⟩
  | dk r _ => rcases r with r | ⟨_, o, r⟩ <;> exact ⟨_, r⟩
  | dt r _ => rcases r with r | ⟨_, o, r⟩ <;> exact ⟨_, r⟩
/-! objects that one variable owns -/
inductive Ct (G : Hp) : HO → D → Prop
  | lst {vs : List V} {ds : List D} : RpAll G vs ds → Ct G (.lst vs) (.list ds)
  | dk {kvs : List (Key × V)} {ds : List (D × D)} : RpK G kvs ds → Ct G (.dK kvs) (.dict ds)
  | dt {kvs : List (List Key × V)} {ds : List (D × D)} : RpT G kvs ds → Ct G (.dT kvs) (.dict ds)
theorem Ct.ext {G G' : Hp} (x : Ext G G') {o : HO} {d : D} (h : Ct G o d) : Ct G' o d := by
  cases h with
  | lst h => exact .lst (h.ext x)
  | dk h => exact .dk (h.ext x)
  | dt h => exact .dt (h.ext x)
def Ow (G H : Hp) (a : Addr) (d : D) : Prop := G a = none ∧ ∃ o, H a = some o ∧ Ct G o d
/-- what may be looked at -/
def Op1 (G H : Hp) (v : V) (d : D) : Prop := Rp G v d ∨ ∃ a, v = .ref a ∧ Ow G H a d
inductive Op1s (G H : Hp) : List V → List D → Prop
  | nil : Op1s G H [] []
  | cons {v : V} {vs : List V} {d : D} {ds : List D} : Op1 G H v d → Op1s G H vs ds → Op1s G H (v :: vs) (d :: ds)
theorem Op1.rp {G H : Hp} {v : V} {d : D} (s : Same G H) (h : Op1 G H v d) : Rp H v d := by
  rcases h with h | ⟨a, rfl, n, o, ho, c⟩
  · exact h.ext (.of s)
  · cases c with
    | lst h => exact .lst (.inl ho) (h.ext (.of s))
    | dk h => exact .dk (.inl ho) (h.ext (.of s))
    | dt h => exact .dt (.inl ho) (h.ext (.of s))
/-- what a frame keeps for others; the slots whose objects the caller lent -/
structure Gh where
  F : Hp
  io : List (Nat × Addr)
  fT : ∀ a vs, F a ≠ some (.tup vs)
structure Er (g : Gh) (env : En) (G : Hp) (σ : St) (H : Hp) : Prop where
  gH : Same G H
  fH : ∀ a o, g.F a = some o → H a = some o ∧ G a = none
  len : env.length = σ.length
  sl : ∀ (i : Nat) (b : Bool) (d : D), env[i]? = some (some (b, d)) → ∃ v, σ[i]? = some (some v) ∧ (b = false → Rp G v d) ∧ (b = true → ∃ a, v = .ref a ∧ Ow G H a d ∧ g.F a = none)
  dj : ∀ (i j : Nat) (d d' : D) (v : V), env[i]? = some (some (true, d)) → env[j]? = some (some (true, d')) → σ[i]? = some (some v) → σ[j]? = some (some v) → i = j
  io : ∀ p ∈ g.io, σ[p.1]? = some (some (V.ref p.2))
/-- the result of an expression: frozen, or new -/
def NotSlot (env : En) (σ : St) (a : Addr) : Prop := ∀ (i : Nat) (d : D), env[i]? = some (some (true, d)) → σ[i]? ≠ some (some (V.ref a))
def Vr (g : Gh) (env : En) (G : Hp) (σ : St) (H : Hp) (r : D × Bool) (v : V) : Prop :=
  (r.2 = false ∧ Rp G v r.1) ∨ (r.2 = true ∧ ∃ a, v = .ref a ∧ Ow G H a r.1 ∧ g.F a = none ∧ NotSlot env σ a)
section
variable {g : Gh} {env : En} {G : Hp} {σ : St} {H : Hp}
theorem Er.noG (er : Er g env G σ H) {a : Addr} (h : H a = none) : G a = none := er.gH.free h
theorem Er.noF (er : Er g env G σ H) {a : Addr} (h : H a = none) : g.F a = none := by
  cases q : g.F a with
  | none => rfl
  | some o => rw [(er.fH a o q).1] at h; cases h
theorem Er.noSlot (er : Er g env G σ H) {a : Addr} (h : H a = none) : NotSlot env σ a := fun i d hi hs => by
  obtain ⟨v, h1, _, h2⟩ := er.sl i true d hi
  obtain ⟨b, rfl, ⟨_, o, ho, _⟩, _⟩ := h2 rfl
  rw [h1] at hs
  cases hs
  rw [h] at ho
  cases ho
/-- an object that is of no concern is laid or changed -/
theorem Er.updo (er : Er g env G σ H) {p : Addr} {o : HO} (hG : G p = none) (hF : g.F p = none) (hS : NotSlot env σ p) : Er g env G σ (upd H p o) where
  gH := fun b x e => by
    rw [upd_ne (ne_of_none e hG)]
    exact er.gH b x e
  fH := fun b x e => by
    rw [upd_ne (ne_of_none e hF)]
    exact er.fH b x e
  len := er.len
  sl := fun i b d h => by
    obtain ⟨v, h1, h2, h3⟩ := er.sl i b d h
    refine ⟨v, h1, h2, fun hb => ?_⟩
    obtain ⟨a, rfl, ⟨n, x, hx, c⟩, hf⟩ := h3 hb
    subst hb
    refine ⟨a, rfl, ⟨n, x, ?_, c⟩, hf⟩
    rw [upd_ne (fun e => hS i d h (by rw [h1, e]))]
    exact hx
  dj := er.dj
  io := er.io
theorem Er.alloc (er : Er g env G σ H) {p : Addr} {o : HO} (hp : H p = none) : Er g env G σ (upd H p o) := er.updo (er.noG hp) (er.noF hp) (er.noSlot hp)
/-- what stands in H is from now on read only -/
theorem Er.freeze (er : Er g env G σ H) {a : Addr} {o : HO} (hH : H a = some o) (hG : G a = none) (hF : g.F a = none) (hS : NotSlot env σ a) : Er g env (upd G a o) σ H := by
  have sm : Same G (upd G a o) := fun b x e => by
    rw [upd_ne (ne_of_none e hG)]
    exact e
  refine ⟨fun b x e => ?_, fun b x e => ?_, er.len, fun i b d h => ?_, er.dj, er.io⟩
  · by_cases hb : b = a
    · subst hb; rw [upd_same] at e; cases e; exact hH
    · rw [upd_ne hb] at e; exact er.gH b x e
  · refine ⟨(er.fH b x e).1, ?_⟩
    rw [upd_ne (ne_of_none e hF)]
    exact (er.fH b x e).2
  · obtain ⟨v, h1, h2, h3⟩ := er.sl i b d h
    refine ⟨v, h1, fun hb => (h2 hb).ext (.of sm), fun hb => ?_⟩
    obtain ⟨c, rfl, ⟨n, x, hx, cc⟩, hf⟩ := h3 hb
    subst hb
    refine ⟨c, rfl, ⟨?_, x, hx, cc.ext (.of sm)⟩, hf⟩
    rw [upd_ne (fun e => hS i d h (by rw [h1, e]))]
    exact n
/-- a dict that is walked is locked -/
theorem ext_lock {G : Hp} {a : Addr} {u : HO} {o : Obj} (h : G a = some u) (hu : (∃ kvs, u = .dK kvs ∧ kvs ≠ []) ∨ ∃ kvs, u = .dT kvs ∧ kvs ≠ []) : Ext G (upd G a (.frz o u)) := by
  have nfz : ∀ o' u', u ≠ .frz o' u' := fun o' u' e => by
    rcases hu with ⟨_, q, _⟩ | ⟨_, q, _⟩ <;> rw [q] at e <;> cases e
  refine ⟨fun b vs r => ?_, fun b kvs r => ?_, fun b kvs r => ?_, fun b vs r => ?_, fun b o' u' r => ?_⟩
  · have hb : b ≠ a := by
      rintro rfl
      rcases r with r | ⟨o', r⟩
      · rw [h] at r
        cases r
        rcases hu with ⟨_, q, _⟩ | ⟨_, q, _⟩ <;> cases q
      · rw [h] at r
        cases r
        exact nfz _ _ rfl
    rcases r with r | ⟨o', r⟩
    · exact .inl (by rw [upd_ne hb]; exact r)
    · exact .inr ⟨o', by rw [upd_ne hb]; exact r⟩
  · by_cases hb : b = a
    · subst hb
      rcases r with r | ⟨_, o', r⟩
      · rw [h] at r
        cases r
        rcases hu with ⟨_, q, n⟩ | ⟨_, q, n⟩
        · cases q
          exact .inr ⟨n, o, upd_same⟩
        · cases q
      · rw [h] at r
        cases r
        exact absurd rfl (nfz _ _)
    · rcases r with r | ⟨n, o', r⟩
      · exact .inl (by rw [upd_ne hb]; exact r)
      · exact .inr ⟨n, o', by rw [upd_ne hb]; exact r⟩
  · by_cases hb : b = a
    · subst hb
      rcases r with r | ⟨_, o', r⟩
      · rw [h] at r
        cases r
        rcases hu with ⟨_, q, n⟩ | ⟨_, q, n⟩
        · cases q
        · cases q
          exact .inr ⟨n, o, upd_same⟩
      · rw [h] at r
        cases r
        exact absurd rfl (nfz _ _)
    · rcases r with r | ⟨n, o', r⟩
      · exact .inl (by rw [upd_ne hb]; exact r)
      · exact .inr ⟨n, o', by rw [upd_ne hb]; exact r⟩
  · have hb : b ≠ a := by
      rintro rfl
      rw [h] at r
      cases r
      rcases hu with ⟨_, q, _⟩ | ⟨_, q, _⟩ <;> cases q
    rw [upd_ne hb]
    exact r
  · have hb : b ≠ a := by
      rintro rfl
      rw [h] at r
      cases r
      exact nfz _ _ rfl
    rw [upd_ne hb]
    exact r
theorem Er.lock (er : Er g env G σ H) {a : Addr} {u : HO} {o : Obj} (h : G a = some u) (hu : (∃ kvs, u = .dK kvs ∧ kvs ≠ []) ∨ ∃ kvs, u = .dT kvs ∧ kvs ≠ []) : Er g env (upd G a (.frz o u)) σ (upd H a (.frz o u)) where
  gH := fun b x e => by
    by_cases hb : b = a
    · subst hb; rw [upd_same] at e ⊢; exact e
    · rw [upd_ne hb] at e ⊢; exact er.gH b x e
  fH := fun b x e => by
    obtain ⟨h1, h2⟩ := er.fH b x e
    have hb : b ≠ a := by
      rintro rfl
      rw [h] at h2
      cases h2
    rw [upd_ne hb, upd_ne hb]
    exact ⟨h1, h2⟩
  len := er.len
  sl := fun i b d q => by
    obtain ⟨v, h1, h2, h3⟩ := er.sl i b d q
    have x := ext_lock (o := o) h hu
    refine ⟨v, h1, fun hb => (h2 hb).ext x, fun hb => ?_⟩
    obtain ⟨c, rfl, ⟨n, y, hy, cc⟩, hf⟩ := h3 hb
    have hc : c ≠ a := by
      rintro rfl
      rw [h] at n
      cases n
    refine ⟨c, rfl, ⟨by rw [upd_ne hc]; exact n, y, by rw [upd_ne hc]; exact hy, cc.ext x⟩, hf⟩
  dj := er.dj
  io := er.io
theorem same_upd {G : Hp} {a : Addr} {o : HO} (hG : G a = none) : Same G (upd G a o) := fun b x e => by
  rw [upd_ne (ne_of_none e hG)]
  exact e
theorem Ct.rp {a : Addr} {o : HO} {d : D} (hG : G a = none) (c : Ct G o d) : Rp (upd G a o) (.ref a) d := by
  have sm : Ext G (upd G a o) := .of (same_upd hG)
  cases c with
  | lst h => exact .lst (.inl upd_same) (h.ext sm)
  | dk h => exact .dk (.inl upd_same) (h.ext sm)
  | dt h => exact .dt (.inl upd_same) (h.ext sm)
/-- a result is frozen -/
theorem Er.cold (er : Er g env G σ H) {r : D × Bool} {v : V} (h : Vr g env G σ H r v) : ∃ G', Ext G G' ∧ Er g env G' σ H ∧ Rp G' v r.1 := by
  rcases h with ⟨_, h⟩ | ⟨_, a, rfl, ⟨n, o, ho, c⟩, hf, hs⟩
  · exact ⟨G, .refl G, er, h⟩
  · exact ⟨_, .of (same_upd n), er.freeze ho n hf hs, c.rp n⟩
/-- a variable's object is frozen -/
theorem Er.coldSlot (er : Er g env G σ H) {i : Nat} {b : Bool} {d : D} (h : env[i]? = some (some (b, d))) : ∃ v G', σ[i]? = some (some v) ∧ Ext G G' ∧ Er g (env.set i (some (false, d))) G' σ H ∧ Rp G' v d := by
  obtain ⟨v, h1, h2, h3⟩ := er.sl i b d h
  have hlt : i < env.length := by
    rcases Nat.lt_or_ge i env.length with q | q
    · exact q
    · rw [List.getElem?_eq_none q] at h; cases h
  -- the slots with i frozen
  have weak : ∀ G', Er g env G' σ H → Rp G' v d → Er g (env.set i (some (false, d))) G' σ H := fun G' e1 rp => by
    have look : ∀ (j : Nat) (s : Bool × D), (env.set i (some (false, d)))[j]? = some (some s) → (j = i ∧ s = (false, d)) ∨ (j ≠ i ∧ env[j]? = some (some s)) := fun j s hj => by
      by_cases hji : j = i
      · subst hji
        rw [List.getElem?_set_self hlt] at hj
        exact .inl ⟨rfl, (Option.some.inj (Option.some.inj hj)).symm⟩
      · rw [List.getElem?_set_ne (fun z => hji z.symm)] at hj
        exact .inr ⟨hji, hj⟩
    refine ⟨e1.gH, e1.fH, by rw [List.length_set]; exact e1.len, fun j b' d' hj => ?_, fun j k d1 d2 w hj hk => ?_, e1.io⟩
    · rcases look j _ hj with ⟨rfl, e⟩ | ⟨_, hj⟩
      · cases e
        exact ⟨v, h1, fun _ => rp, fun z => by cases z⟩
      · exact e1.sl j b' d' hj
    · rcases look j _ hj with ⟨rfl, e⟩ | ⟨_, hj⟩
      · cases e
      · rcases look k _ hk with ⟨rfl, e⟩ | ⟨_, hk⟩
        · cases e
        · exact e1.dj j k d1 d2 w hj hk
  cases b with
  | false => exact ⟨v, G, h1, .refl G, weak G er (h2 rfl), h2 rfl⟩
  | true =>
    obtain ⟨a, rfl, ⟨n, o, ho, c⟩, hf⟩ := h3 rfl
    -- first the slot is forgotten
    have er0 : Er g (env.set i none) G σ H := by
      have look : ∀ (j : Nat) (s : Bool × D), (env.set i none)[j]? = some (some s) → j ≠ i ∧ env[j]? = some (some s) := fun j s hj => by
        by_cases hji : j = i
        · subst hji
          rw [List.getElem?_set_self hlt] at hj
          cases hj
        · rw [List.getElem?_set_ne (fun z => hji z.symm)] at hj
          exact ⟨hji, hj⟩
      exact ⟨er.gH, er.fH, by rw [List.length_set]; exact er.len, fun j b' d' hj => er.sl j b' d' (look j _ hj).2, fun j k d1 d2 w hj hk => er.dj j k d1 d2 w (look j _ hj).2 (look k _ hk).2, er.io⟩
    have ns : NotSlot (env.set i none) σ a := fun j e hj hs => by
      by_cases hji : j = i
      · subst hji
        rw [List.getElem?_set_self hlt] at hj
        cases hj
      · rw [List.getElem?_set_ne (fun z => hji z.symm)] at hj
        exact hji (er.dj j i e d _ hj h hs h1)
    have er1 := er0.freeze ho n hf ns
    refine ⟨.ref a, _, h1, .of (same_upd n), ?_, c.rp n⟩
    have look : ∀ (j : Nat) (s : Bool × D), (env.set i (some (false, d)))[j]? = some (some s) → (j = i ∧ s = (false, d)) ∨ (j ≠ i ∧ (env.set i none)[j]? = some (some s)) := fun j s hj => by
      by_cases hji : j = i
      · subst hji
        rw [List.getElem?_set_self hlt] at hj
        exact .inl ⟨rfl, (Option.some.inj (Option.some.inj hj)).symm⟩
      · rw [List.getElem?_set_ne (fun z => hji z.symm)] at hj
        refine .inr ⟨hji, ?_⟩
        rw [List.getElem?_set_ne (fun z => hji z.symm)]
        exact hj
    refine ⟨er1.gH, er1.fH, by rw [List.length_set]; exact er.len, fun j b' d' hj => ?_, fun j k d1 d2 w hj hk => ?_, er1.io⟩
    · rcases look j _ hj with ⟨rfl, e⟩ | ⟨_, hj⟩
      · cases e
        exact ⟨_, h1, fun _ => c.rp n, fun z => by cases z⟩
      · exact er1.sl j b' d' hj
    · rcases look j _ hj with ⟨rfl, e⟩ | ⟨_, hj⟩
      · cases e
      · rcases look k _ hk with ⟨rfl, e⟩ | ⟨_, hk⟩
        · cases e
        · exact er1.dj j k d1 d2 w hj hk
/-- more tuples are known -/
def More (G G1 H : Hp) : Prop := Same G G1 ∧ ∀ a o, G1 a = some o → G a = some o ∨ (G a = none ∧ (∃ vs, o = .tup vs) ∧ H a = some o)
theorem Er.more {G1 : Hp} (er : Er g env G σ H) (m : More G G1 H) : Er g env G1 σ H := by
  refine ⟨fun b x e => ?_, fun b x e => ⟨(er.fH b x e).1, ?_⟩, er.len, fun i b d h => ?_, er.dj, er.io⟩
  · rcases m.2 b x e with q | ⟨_, _, q⟩
    · exact er.gH b x q
    · exact q
  · cases q : G1 b with
    | none => rfl
    | some o =>
      exfalso
      rcases m.2 b o q with z | ⟨_, ⟨vs, rfl⟩, z⟩
      · rw [(er.fH b x e).2] at z; cases z
      · rw [(er.fH b x e).1] at z
        cases z
        exact g.fT b vs e
  · obtain ⟨v, h1, h2, h3⟩ := er.sl i b d h
    refine ⟨v, h1, fun hb => (h2 hb).ext (.of m.1), fun hb => ?_⟩
    obtain ⟨c, rfl, ⟨n, x, hx, cc⟩, hf⟩ := h3 hb
    refine ⟨c, rfl, ⟨?_, x, hx, cc.ext (.of m.1)⟩, hf⟩
    cases q : G1 c with
    | none => rfl
    | some o =>
      exfalso
      rcases m.2 c o q with z | ⟨_, ⟨vs, rfl⟩, z⟩
      · rw [n] at z; cases z
      · rw [hx] at z
        cases z
        cases cc
end
end G6

namespace G6
open PySem PySem.Spec L2
/-- what is wanted of an exception: its class's name, the slots, the heap -/
abbrev Wx := Str → L2.St → Hp → Prop
def After {α : Type} (W : Wx) (g : Gh) (G : Hp) (σ : L2.St) (r : Re α) (P : α → En → Hp → Hp → Prop) : Prop := match r with
  | .ok a e => ∀ G' H', Ext G G' → Er g e G' σ H' → P a e G' H'
  | .exc c e => ∀ G' H', Ext G G' → Er g e G' σ H' → W c σ H'
  | .bad => False
theorem After.ext {α : Type} {W : Wx} {g : Gh} {G G1 : Hp} {σ : L2.St} {r : Re α} {P : α → En → Hp → Hp → Prop} (x : Ext G G1) (h : After W g G σ r P) : After W g G1 σ r P := by
  cases r with
  | ok a e => exact fun G' H' y er => h G' H' (x.trans y) er
  | exc c e => exact fun G' H' y er => h G' H' (x.trans y) er
  | bad => exact h
theorem After.mono {α : Type} {W : Wx} {g : Gh} {G : Hp} {σ : L2.St} {r : Re α} {P P' : α → En → Hp → Hp → Prop} (h : After W g G σ r P) (hp : ∀ a e G' H', Ext G G' → Er g e G' σ H' → P a e G' H' → P' a e G' H') : After W g G σ r P' := by
  cases r with
  | ok a e => exact fun G' H' y er => hp a e G' H' y er (h G' H' y er)
  | exc c e => exact h
  | bad => exact h
/-- one after the other -/
theorem After.split {α β : Type} {W : Wx} {g : Gh} {G : Hp} {σ : L2.St} {r : Re α} {f : α → En → Re β} {P : β → En → Hp → Hp → Prop} (h : After W g G σ (r.bind f) P) : After W g G σ r fun a e G' _ => After W g G' σ (f a e) P := by
  cases r with
  | ok a e => exact fun G' H' y er => After.ext y h
  | exc c e => exact h
  | bad => exact h
/-- a token stands for a value -/
def Tr (σ : L2.St) (G : Hp) (t : Tok) (v : V) : Prop := match t with
  | .inl i => σ[i]? = some (some v)
  | .inr d => Rp G v d
inductive Trs (σ : L2.St) (G : Hp) : List Tok → List V → Prop
  | nil : Trs σ G [] []
  | cons {t : Tok} {ts : List Tok} {v : V} {vs : List V} : Tr σ G t v → Trs σ G ts vs → Trs σ G (t :: ts) (v :: vs)
theorem Tr.ext {σ : L2.St} {G G' : Hp} (x : Ext G G') {t : Tok} {v : V} (h : Tr σ G t v) : Tr σ G' t v := by
  cases t with
  | inl i => exact h
  | inr d => exact Rp.ext x h
theorem Trs.ext {σ : L2.St} {G G' : Hp} (x : Ext G G') : ∀ {ts : List Tok} {vs : List V}, Trs σ G ts vs → Trs σ G' ts vs
  | _, _, .nil => .nil
  | _, _, .cons h r => .cons (h.ext x) (r.ext x)
def tX (W : Wx) (m : X) : TE := fun σ H Q => ∃ g env G, Er g env G σ H ∧ After W g G σ (m env) fun r e G' H' => ∀ v, Vr g e G' σ H' r v → Q v H'
def tPk (W : Wx) (p : Pk) : TE := fun σ H Q => ∃ g env G, Er g env G σ H ∧ After W g G σ (p.ev env) fun t e G' H' => ∀ v, Tr σ G' t v → Q v H'
def tPks (W : Wx) (ps : List Pk) : TA := fun σ H Q => ∃ g env G, Er g env G σ H ∧ After W g G σ (evPks ps env) fun ts e G' H' => ∀ vs, Trs σ G' ts vs → Q vs H'
def tXs (W : Wx) (ms : List X) : TA := fun σ H Q => ∃ g env G, Er g env G σ H ∧ After W g G σ (evXs ms env) fun ds e G' H' => ∀ vs, RpAll G' vs ds → Q vs H'
def tTe (W : Wx) (t : T) : TT := fun σ H Q => ∃ g env G, Er g env G σ H ∧ After W g G σ (t env) fun b e G' H' => Q b H'
theorem PE.imp {X : Cx} {e : Expr} {t t' : TE} (h : PE X e t) (i : ∀ σ H Q, t' σ H Q → t σ H Q) : PE X e t' := ⟨fun pins s σ H Q I q => h.run pins s σ H Q I (i σ H Q q)⟩
theorem PT.imp {X : Cx} {e : Expr} {t t' : TT} (h : PT X e t) (i : ∀ σ H Q, t' σ H Q → t σ H Q) : PT X e t' := ⟨fun pins s σ H Q I q => h.run pins s σ H Q I (i σ H Q q)⟩
theorem PW.imp {X : Cx} {e : Expr} {t t' : TT} (h : PW X e t) (i : ∀ σ H Q, t' σ H Q → t σ H Q) : PW X e t' := ⟨fun whole pins s σ H Q I q => h.run whole pins s σ H Q I (i σ H Q q)⟩
theorem PA.imp {X : Cx} {es : List Expr} {t t' : TA} (h : PA X es t) (i : ∀ σ H Q, t' σ H Q → t σ H Q) : PA X es t' := ⟨fun pos pins s σ H Q I q => h.run pos pins s σ H Q I (i σ H Q q)⟩
theorem PS.imp {X : Cx} {e : Stmt} {t t' : TS} (h : PS X e t) (i : ∀ D σ H, t' D σ H → t D σ H) : PS X e t' := ⟨fun pins s σ H D I q => h.run pins s σ H D I (i D σ H q)⟩
theorem PSs.imp {X : Cx} {e : List Stmt} {t t' : TS} (h : PSs X e t) (i : ∀ D σ H, t' D σ H → t D σ H) : PSs X e t' := ⟨fun pins s σ H D I q => h.run pins s σ H D I (i D σ H q)⟩
theorem PI.imp {X : Cx} {tg e : Expr} {t t' : TI} (h : PI X tg e t) (i : ∀ σ H Q, t' σ H Q → t σ H Q) : PI X tg e t' := ⟨fun pins s σ H Q I q => h.run pins s σ H Q I (i σ H Q q)⟩
/-- a name that is only looked at -/
theorem pk_nm {i : Nat} {W : Wx} (σ : L2.St) (H : Hp) (Q : VK) (h : tPk W (.nm i) σ H Q) : tVar i σ H Q := by
  obtain ⟨g, env, G, er, h⟩ := h
  simp only [Pk.ev] at h
  cases e : env[i]? with
  | none => simp only [e] at h; exact h.elim
  | some s =>
    cases s with
    | none => simp only [e] at h; exact h.elim
    | some s =>
      simp only [e] at h
      obtain ⟨v, h1, _⟩ := er.sl i s.1 s.2 e
      exact ⟨v, h1, h G H (.refl G) er v h1⟩
theorem pk_ex {m : X} {W : Wx} (σ : L2.St) (H : Hp) (Q : VK) (h : tPk W (.ex m) σ H Q) : tX W m σ H Q := by
  obtain ⟨g, env, G, er, h⟩ := h
  refine ⟨g, env, G, er, ?_⟩
  have h2 : After W g G σ ((m env).bind fun r e1 => .ok (.inr r.1) e1) fun t e G' H' => ∀ v, Tr σ G' t v → Q v H' := h
  refine h2.split.mono fun r e G' H' x er' h v hv => ?_
  obtain ⟨G2, x2, er2, rp⟩ := er'.cold hv
  exact h G2 H' x2 er2 v rp
/-- operands from the left -/
theorem pks_nil {W : Wx} (σ : L2.St) (H : Hp) (Q : List V → Hp → Prop) (h : tPks W [] σ H Q) : tNil σ H Q := by
  obtain ⟨g, env, G, er, h⟩ := h
  exact h G H (.refl G) er [] .nil
theorem pks_cons {W : Wx} {p : Pk} {ps : List Pk} (σ : L2.St) (H : Hp) (Q : List V → Hp → Prop) (h : tPks W (p :: ps) σ H Q) : tCons (tPk W p) (tPks W ps) σ H Q := by
  obtain ⟨g, env, G, er, h⟩ := h
  refine ⟨g, env, G, er, ?_⟩
  have h2 : After W g G σ ((p.ev env).bind fun t e1 => (evPks ps e1).bind fun ts e2 => .ok (t :: ts) e2) fun ts e G' H' => ∀ vs, Trs σ G' ts vs → Q vs H' := h
  refine h2.split.mono fun t e G' H' x er' h v hv => ?_
  refine ⟨g, e, G', er', h.split.mono fun ts e2 G2 H2 x2 er2 h vs hvs => ?_⟩
  exact h G2 H2 (.refl G2) er2 _ (.cons (hv.ext x2) hvs)
theorem xs_nil {W : Wx} (σ : L2.St) (H : Hp) (Q : List V → Hp → Prop) (h : tXs W [] σ H Q) : tNil σ H Q := by
  obtain ⟨g, env, G, er, h⟩ := h
  exact h G H (.refl G) er [] .nil
theorem xs_cons {W : Wx} {p : X} {ps : List X} (σ : L2.St) (H : Hp) (Q : List V → Hp → Prop) (h : tXs W (p :: ps) σ H Q) : tCons (tX W p) (tXs W ps) σ H Q := by
  obtain ⟨g, env, G, er, h⟩ := h
  refine ⟨g, env, G, er, ?_⟩
  have h2 : After W g G σ ((p env).bind fun r e1 => (evXs ps e1).bind fun ts e2 => .ok (r.1 :: ts) e2) fun ts e G' H' => ∀ vs, RpAll G' vs ts → Q vs H' := h
  refine h2.split.mono fun r e G' H' x er' h v hv => ?_
  obtain ⟨G1, x1, er1, rp⟩ := er'.cold hv
  refine ⟨g, e, G1, er1, (h.ext x1).split.mono fun ts e2 G2 H2 x2 er2 h vs hvs => ?_⟩
  exact h G2 H2 (.refl G2) er2 _ (.cons (rp.ext x2) hvs)
/-- tokens at the operation -/
theorem op1_of {g : Gh} {e : En} {G : Hp} {σ : L2.St} {H : Hp} (er : Er g e G σ H) {t : Tok} {v : V} {d : D} (h : Tr σ G t v) (hd : tget e t = some d) : Op1 G H v d := by
  cases t with
  | inr x => cases hd; exact .inl h
  | inl i =>
    simp only [tget] at hd
    cases q : e[i]? with
    | none => simp only [q] at hd; cases hd
    | some s =>
      cases s with
      | none => simp only [q] at hd; cases hd
      | some s =>
        simp only [q] at hd
        obtain ⟨b, x⟩ := s
        cases hd
        obtain ⟨w, h1, h2, h3⟩ := er.sl i b x q
        have hv : w = v := by
          have z : σ[i]? = some (some v) := h
          rw [h1] at z
          cases z; rfl
        subst hv
        cases b with
        | false => exact .inl (h2 rfl)
        | true =>
          obtain ⟨a, e1, o, _⟩ := h3 rfl
          exact .inr ⟨a, e1, o⟩
theorem op1s_of {g : Gh} {e : En} {G : Hp} {σ : L2.St} {H : Hp} (er : Er g e G σ H) : ∀ {ts : List Tok} {vs : List V} {ds : List D}, Trs σ G ts vs → tgets e ts = some ds → Op1s G H vs ds
  | _, _, _, .nil, hd => by cases hd; exact .nil
  | t :: ts, _, ds, .cons h r, hd => by
    simp only [tgets] at hd
    cases q : tget e t with
    | none => simp only [q] at hd; cases hd
    | some d =>
      cases q2 : tgets e ts with
      | none => simp only [q, q2] at hd; cases hd
      | some ds' =>
        simp only [q, q2] at hd
        cases hd
        exact .cons (op1_of er h q) (op1s_of er r q2)
/-- how a primitive hands back: a value there is; a new list or dict; a new tuple -/
inductive Out (G H : Hp) : Hp → V → D × Bool → Prop
  | old {v : V} {d : D} : Rp G v d → Out G H H v (d, false)
  | new {p : Addr} {o : HO} {d : D} : H p = none → Ct G o d → Out G H (upd H p o) (.ref p) (d, true)
  | tup {p : Addr} {vs : List V} {ds : List D} : H p = none → RpAll G vs ds → Out G H (upd H p (.tup vs)) (.ref p) (.tuple ds, false)
  | seen {G1 : Hp} {v : V} {d : D} : More G G1 H → Rp G1 v d → Out G H H v (d, false)
  | keys {G1 : Hp} {p : Addr} {o : HO} {d : D} : More G G1 H → H p = none → Ct G1 o d → Out G H (upd H p o) (.ref p) (d, true)
/-- the reading of a primitive -/
def rN (f : Pr) : List V → Hp → VK → Prop := fun vs H Q => ∃ G ds r, Same G H ∧ Op1s G H vs ds ∧ f ds = some r ∧ ∀ v H', Out G H H' v r → Q v H'
theorem Er.out {g : Gh} {e : En} {G : Hp} {σ : L2.St} {H H' : Hp} {v : V} {r : D × Bool} (er : Er g e G σ H) (o : Out G H H' v r) : ∃ G', Ext G G' ∧ Er g e G' σ H' ∧ Vr g e G' σ H' r v := by
  cases o with
  | old h => exact ⟨G, .refl G, er, .inl ⟨rfl, h⟩⟩
  | seen m h => exact ⟨_, .of m.1, er.more m, .inl ⟨rfl, h⟩⟩
  | new hp c => exact ⟨G, .refl G, er.alloc hp, .inr ⟨rfl, _, rfl, ⟨er.noG hp, _, upd_same, c⟩, er.noF hp, er.noSlot hp⟩⟩
  | keys m hp c =>
    have er1 := er.more m
    exact ⟨_, .of m.1, er1.alloc hp, .inr ⟨rfl, _, rfl, ⟨er1.noG hp, _, upd_same, c⟩, er1.noF hp, er1.noSlot hp⟩⟩
  | @tup p vs ds hp h =>
    have x : Ext G (upd G p (.tup vs)) := .of (same_upd (er.noG hp))
    exact ⟨_, x, (er.alloc hp).freeze upd_same (er.noG hp) (er.noF hp) (er.noSlot hp), .inl ⟨rfl, .tup upd_same (h.ext x)⟩⟩
theorem prim_of {W : Wx} {f : Pr} {ps : List Pk} (σ : L2.St) (H : Hp) (Q : VK) (h : tX W (xPrim f ps) σ H Q) : tPks W ps σ H fun vs H2 => rN f vs H2 Q := by
  obtain ⟨g, env, G, er, h⟩ := h
  refine ⟨g, env, G, er, ?_⟩
  unfold xPrim at h
  refine h.split.mono fun ts e G' H' x er' h vs hvs => ?_
  cases q : tgets e ts with
  | none => simp only [q] at h; exact h.elim
  | some ds =>
    cases q2 : f ds with
    | none => simp only [q, q2] at h; exact h.elim
    | some r =>
      simp only [q, q2] at h
      refine ⟨G', ds, r, er'.gH, op1s_of er' hvs q, q2, fun v H2 o => ?_⟩
      obtain ⟨G2, x2, er2, vr⟩ := er'.out o
      exact h G2 H2 x2 er2 v vr
/-- two operands -/
def r2 (f : Pr) : R2 := fun x y H Q => rN f [x, y] H Q
theorem prim2_of {W : Wx} {f : Pr} {p q : Pk} (σ : L2.St) (H : Hp) (Q : VK) (h : tX W (xPrim f [p, q]) σ H Q) : tOp (r2 f) (tPk W p) (tPk W q) σ H Q := by
  have h1 := pks_cons σ H _ (prim_of σ H Q h)
  obtain ⟨g, env, G, er, h1⟩ := h1
  refine ⟨g, env, G, er, h1.mono fun t e G' H' x er' h v hv => ?_⟩
  have h2 := pks_cons σ H' _ (h v hv)
  obtain ⟨g2, env2, G2, er2, h2⟩ := h2
  refine ⟨g2, env2, G2, er2, h2.mono fun t2 e2 G3 H3 x3 er3 h w hw => ?_⟩
  exact pks_nil σ H3 _ (h w hw)
theorem prim1_of {W : Wx} {f : Pr} {p : Pk} (σ : L2.St) (H : Hp) (Q : VK) (h : tX W (xPrim f [p]) σ H Q) : tPk W p σ H fun x H1 => rN f [x] H1 Q := by
  have h1 := pks_cons σ H _ (prim_of σ H Q h)
  obtain ⟨g, env, G, er, h1⟩ := h1
  exact ⟨g, env, G, er, h1.mono fun t e G' H' x er' h v hv => pks_nil σ H' _ (h v hv)⟩
/-! ### data -/
section
variable {G : Hp}
mutual
theorem Rp.dp {K : PySem.W.Frag} : ∀ {v : V} {d : D}, Rp G v d → d.plain = true → Dp K G v d
  | _, _, .non, _ => .non
  | _, _, .bl b, _ => .bl b
  | _, _, .int i, _ => .int i
  | _, _, .str s, _ => .str s
  | _, _, .lst r h, p => .lst (.inl r) (RpAll.dp h (by simpa [PyData.plain] using p))
  | _, _, .tup r h, p => .tup (.inl (.inl r)) (RpAll.dp h (by simpa [PyData.plain] using p))
  | _, _, .dk r h, p => by simp [PyData.plain] at p
  | _, _, .dt r h, p => by simp [PyData.plain] at p
theorem RpAll.dp {K : PySem.W.Frag} : ∀ {vs : List V} {ds : List D}, RpAll G vs ds → PyData.plainAll ds = true → DpAll K G vs ds
  | _, _, .nil, _ => .nil
  | _, _, .cons h r, p => by
    simp only [PyData.plainAll, Bool.and_eq_true] at p
    exact .cons (Rp.dp h p.1) (RpAll.dp r p.2)
end
end
/-- a value reads as its data -/
theorem reads_of {X : Cx} {pins : List (Addr × Obj)} {σ : L2.St} {H : Hp} {s : Shared} (I : Inv X pins σ H s) {v : V} {d : D} {u : Value} (h : Rp H v d) (p : d.plain = true) (r : RelV v u) : ∃ as, Reads s.heap u d as :=
  Dp.reads I d v u (h.dp p) r
theorem readsAll_of {X : Cx} {pins : List (Addr × Obj)} {σ : L2.St} {H : Hp} {s : Shared} (I : Inv X pins σ H s) {vs : List V} {ds : List D} {us : List Value} (h : RpAll H vs ds) (p : PyData.plainAll ds = true) (r : Vals vs us) : ∃ as, ReadsAll s.heap us ds as :=
  Dp.readsAll I ds vs us (h.dp p) r
end G6

namespace G6
open PySem PySem.Spec L2
section
variable {G H : Hp} {v : V}
theorem op1_int {i : Int} (h : Op1 G H v (.int i)) : v = .int i := by
  rcases h with h | ⟨a, _, _, o, _, c⟩
  · cases h; rfl
  · cases c
theorem op1_str {i : Str} (h : Op1 G H v (.str i)) : v = .str i := by
  rcases h with h | ⟨a, _, _, o, _, c⟩
  · cases h; rfl
  · cases c
theorem op1_bool {i : Bool} (h : Op1 G H v (.bool i)) : v = .bl i := by
  rcases h with h | ⟨a, _, _, o, _, c⟩
  · cases h; rfl
  · cases c
theorem op1_none (h : Op1 G H v .none) : v = .non := by
  rcases h with h | ⟨a, _, _, o, _, c⟩
  · cases h; rfl
  · cases c
theorem op1_list {ds : List D} (sm : Same G H) (h : Op1 G H v (.list ds)) : ∃ a vs, v = .ref a ∧ Rd H a (.lst vs) ∧ RpAll G vs ds := by
  rcases h with h | ⟨a, rfl, _, o, ho, c⟩
  · cases h with
    | lst r h => exact ⟨_, _, rfl, rd_same sm r, h⟩
  · cases c with
    | lst h => exact ⟨_, _, rfl, .inl ho, h⟩
theorem op1_tuple {ds : List D} (sm : Same G H) (h : Op1 G H v (.tuple ds)) : ∃ a vs, v = .ref a ∧ G a = some (.tup vs) ∧ H a = some (.tup vs) ∧ RpAll G vs ds := by
  rcases h with h | ⟨a, rfl, _, o, ho, c⟩
  · cases h with
    | tup r h => exact ⟨_, _, rfl, r, sm _ _ r, h⟩
  · cases c
theorem op1_dict {ds : List (D × D)} (sm : Same G H) (h : Op1 G H v (.dict ds)) : ∃ a, v = .ref a ∧ ((∃ kvs, RdK H a kvs ∧ RpK G kvs ds) ∨ ∃ kvs, RdT H a kvs ∧ RpT G kvs ds) := by
  rcases h with h | ⟨a, rfl, _, o, ho, c⟩
  · cases h with
    | dk r h => exact ⟨_, rfl, .inl ⟨_, r.same sm, h⟩⟩
    | dt r h => exact ⟨_, rfl, .inr ⟨_, r.same sm, h⟩⟩
  · cases c with
    | dk h => exact ⟨_, rfl, .inl ⟨_, .inl ho, h⟩⟩
    | dt h => exact ⟨_, rfl, .inr ⟨_, .inl ho, h⟩⟩
theorem rN1 {f : Pr} {x : V} {Q : VK} (h : rN f [x] H Q) : ∃ G d r, Same G H ∧ Op1 G H x d ∧ f [d] = some r ∧ ∀ v H', Out G H H' v r → Q v H' := by
  obtain ⟨G, ds, r, sm, ops, hf, hq⟩ := h
  cases ops with
  | cons o1 ops =>
    cases ops
    exact ⟨G, _, r, sm, o1, hf, hq⟩
theorem rN2 {f : Pr} {x y : V} {Q : VK} (h : rN f [x, y] H Q) : ∃ G d e r, Same G H ∧ Op1 G H x d ∧ Op1 G H y e ∧ f [d, e] = some r ∧ ∀ v H', Out G H H' v r → Q v H' := by
  obtain ⟨G, ds, r, sm, ops, hf, hq⟩ := h
  cases ops with
  | cons o1 ops =>
    cases ops with
    | cons o2 ops =>
      cases ops
      exact ⟨G, _, _, r, sm, o1, o2, hf, hq⟩
theorem rN_len {f : Pr} {xs : List V} {Q : VK} (h : rN f xs H Q) : ∃ G ds r, Same G H ∧ Op1s G H xs ds ∧ f ds = some r ∧ ∀ v H', Out G H H' v r → Q v H' := h
theorem RpAll.up {vs : List V} {ds : List D} (sm : Same G H) (h : RpAll G vs ds) : RpAll H vs ds := h.ext (.of sm)
end
section
variable {X : Cx} {pins : List (Addr × Obj)} {σ : L2.St} {H : Hp} {s : Shared}
theorem lstR {l : Addr} {xs : List V} (I : Inv X pins σ H s) (h : Rd H l (.lst xs)) : xs.length ≤ sizeLine ∧ ∃ (its : List Value) (n : Nat), Vals xs its ∧ xs.length = its.length ∧ s.heap.get? l = some { cls := .type "list", data := .seq its.toArray n } := by
  obtain ⟨z, its, n, r, e⟩ := h.ok I.hok
  exact ⟨z, its, n, r, r.length, e⟩
theorem sqL {K : PySem.W.Frag} {l : Addr} {xs : List V} (h : Rd H l (.lst xs)) : SqL K H l xs := .inl h
theorem sqT {K : PySem.W.Frag} {l : Addr} {xs : List V} (h : H l = some (.tup xs)) : SqT K H l xs := .inl (.inl h)
end
section
variable {X : Cx}
/-! ### + - * // % -/
def rJoin : R2 := fun x y H Q => ∃ l b xs zs, x = .ref l ∧ y = .ref b ∧ Rd H l (.lst xs) ∧ Rd H b (.lst zs) ∧ xs.length + zs.length ≤ sizeLine ∧ ∀ p, H p = none → Q (.ref p) (upd H p (.lst (xs ++ zs)))
theorem op_join : OpR X (binaryOp .Add) rJoin := by
  intro pins s σ H x y v u Q I hx hy h
  obtain ⟨l, b, xs, zs, rfl, rfl, hl, hb, hz, q⟩ := h
  cases hx
  cases hy
  obtain ⟨_, i1, n1, r1, e1, g1⟩ := lstR I hl
  obtain ⟨_, i2, n2, r2, e2, g2⟩ := lstR I hb
  refine PySem.P.add_list g1 g2 ?_ (by simp only [List.size_toArray]; omega)
  rw [show i1.toArray ++ i2.toArray = (i1 ++ i2).toArray from by simp]
  exact ⟨V.ref _, _, I.lnew (t' := s.toks) (r1.append r2) (by simp only [List.length_append]; omega), rfl, q _ I.fresh⟩
theorem op_pAdd : OpR X (binaryOp .Add) (r2 pAdd) := by
  intro pins s σ H x y v u Q I hx hy h
  obtain ⟨G, d, e, r, sm, o1, o2, hf, hq⟩ := rN2 h
  unfold pAdd at hf
  split at hf
  · rename_i i j heq
    cases heq
    cases hf
    exact op_add pins s σ H x y v u Q I hx hy ⟨_, _, op1_int o1, op1_int o2, hq _ _ (.old (.int _))⟩
  · rename_i i j heq
    cases heq
    split at hf
    · rename_i hl
      cases hf
      exact op_add_str pins s σ H x y v u Q I hx hy ⟨_, _, op1_str o1, op1_str o2, hl, hq _ _ (.old (.str _))⟩
    · cases hf
  · rename_i i j heq
    cases heq
    split at hf
    · rename_i hl
      cases hf
      obtain ⟨a, vs, rfl, ra, ha⟩ := op1_list sm o1
      obtain ⟨b, ws, rfl, rb, hb⟩ := op1_list sm o2
      exact op_join pins s σ H _ _ v u Q I hx hy ⟨a, b, vs, ws, rfl, rfl, ra, rb, by rw [ha.length, hb.length]; exact hl, fun p hp => hq _ _ (.new hp (.lst (ha.append hb)))⟩
    · cases hf
  · rename_i i j heq
    cases heq
    split at hf
    · rename_i hl
      cases hf
      obtain ⟨a, vs, rfl, ga, ra, ha⟩ := op1_tuple sm o1
      obtain ⟨b, ws, rfl, gb, rb, hb⟩ := op1_tuple sm o2
      refine op_catA pins s σ H _ _ v u Q I hx hy ⟨a, b, vs, ws, rfl, rfl, sqT ra, sqT rb, by rw [ha.length, hb.length]; exact hl, fun z => ?_, fun _ z => ?_, fun z1 z2 p hp => ?_⟩
      · subst z
        cases ha
        exact hq _ _ (.old (.tup gb hb))
      · subst z
        cases hb
        rw [List.append_nil] at hq
        exact hq _ _ (.old (.tup ga ha))
      · exact hq _ _ (.tup hp (ha.append hb))
    · cases hf
  · cases hf
end
end G6

namespace G6
open PySem PySem.Spec PyProof.Rows L2
/-- a tuple times 1, the empty one times anything: the tuple itself -/
theorem tuple_mul_self (l : Addr) (items : Array Value) (n : Nat) (dd : Option Addr) (sl : Array (Option Value)) (x : Int) (u : PySem.Tok) (c0 : (decide (x < -(2 ^ 63)) || decide (x ≥ 2 ^ 63)) = false) (c1 : (items.isEmpty || x == 1) = true) :
    Meets (Builtin.«tuple.__mul__» ⟨[.ref l, .int x u], []⟩) (fun _ R s => s.heap.get? l = some { cls := .type "tuple", dict := dd, data := .seq items n, slots := sl } ∧ R (.ok (.ret (Value.ref l))) s) :=
  .of_wp fun prog w A R s h => by
    obtain ⟨hp, g, d, tk, os⟩ := s
    obtain ⟨hl, h⟩ := h
    have f1 := AutoSeq1.idx_int
    wp_walk using wpAny_loadPart' hl
    repeat (first
      | (refine wpAny_ite_false (decide_eq_false (by rw [c0]; exact Bool.false_ne_true)) ?_; wp_walk using wpAny_loadPart' hl)
      | (refine wpAny_ite_true (decide_eq_true (by rw [c1])) ?_; wp_walk using wpAny_loadPart' hl))
    exact ⟨_, rfl, h⟩
def rTimesT (K : PySem.W.Frag) : R2 := fun x y H Q => ∃ l k xs, x = .ref l ∧ y = .int k ∧ SqT K H l xs ∧ (xs = [] ∨ k = 1) ∧ 1 ≤ k ∧ k ≤ 1000 ∧ Q (.ref l) H
theorem op_timesT1 {X : Cx} : OpR X (binaryOp .Mult) (rTimesT X.K) := by
  intro pins s σ H x y v u Q I rx ry h
  obtain ⟨l, k, xs, rfl, rfl, hT, hc1, h1, h2, q⟩ := h
  cases rx
  obtain ⟨t, rfl⟩ := ry
  obtain ⟨its, r, ⟨⟨cls, dd, data, sl⟩, ho, hc, n, hd⟩, hs⟩ := I.tuple hT
  simp only at hc hd
  subst hc hd
  have hle : its.length = xs.length := r.length.symm
  have c0 : (decide (k < -(2 ^ 63)) || decide (k ≥ 2 ^ 63)) = false := by
    rw [decide_eq_false (by omega), decide_eq_false (by omega)] <;> rfl
  have c1 : (its.toArray.isEmpty || k == 1) = true := by
    rcases hc1 with z | z
    · have : its = [] := List.eq_nil_of_length_eq_zero (by rw [hle, z]; rfl)
      rw [this]; rfl
    · rw [z]; simp
  refine wpAny_binaryOp_repeat_ref (T := "tuple") (U := "int") (by decide) ⟨_, ho, rfl⟩ (fun s' => typeIs_int s' k t) noFill_tuple_mul F.fills_int_mul F.slot_int_rmul repeat_tuple F.slot_int_index.lookup
    (call_meets F.slot_int_rmul (typeIs_int s k t) F.entry_int_rmul (F.args_int_rmul_2 _ _) (int_rmul_tuple k t l its.toArray n dd sl)
      ⟨ho, rfl, ⟨_, ho, rfl⟩, call_meets F.slot_tuple_mul ⟨_, ho, rfl⟩ F.entry_tuple_mul (F.args_tuple_mul_2 _ _) (tuple_mul_self l its.toArray n dd sl k t c0 c1) ⟨ho, ?_⟩⟩)
  exact ⟨.ref l, H, I, rfl, q⟩
end G6

namespace G6
open PySem PySem.Spec L2
section
variable {X : Cx}
theorem op_pSub : OpR X (binaryOp .Sub) (r2 pSub) := by
  intro pins s σ H x y v u Q I hx hy h
  obtain ⟨G, d, e, r, sm, o1, o2, hf, hq⟩ := rN2 h
  unfold pSub at hf
  split at hf
  · rename_i i j heq
    cases heq
    cases hf
    exact op_sub pins s σ H x y v u Q I hx hy ⟨_, _, op1_int o1, op1_int o2, hq _ _ (.old (.int _))⟩
  · cases hf
def rTimes : R2 := fun x y H Q => ∃ l k xs, x = .ref l ∧ y = .int k ∧ Rd H l (.lst xs) ∧ -(2 ^ 63) ≤ k ∧ k < 2 ^ 63 ∧ xs.length * k.toNat ≤ sizeLine ∧ ∀ p, H p = none → Q (.ref p) (upd H p (.lst (List.replicate k.toNat xs).flatten))
theorem rep_arr (its : List Value) (m : Nat) : List.foldl (fun a b => a ++ b) #[] (List.replicate m its.toArray) = (List.replicate m its).flatten.toArray := by
  have h := foldl_rep its m []
  simpa using h
open PyProof.Rows in
theorem op_times : OpR X (binaryOp .Mult) rTimes := by
  intro pins s σ H x y v u Q I hx hy h
  obtain ⟨l, k, xs, rfl, rfl, hl, h1, h2, hz, q⟩ := h
  cases hx
  obtain ⟨t, rfl⟩ := hy
  obtain ⟨_, its, n, r, e1, g1⟩ := lstR I hl
  have len : its.toArray.size * k.toNat ≤ sizeLine := by
    rw [List.size_toArray, ← e1]
    exact hz
  have c1 : ¬ its.toArray.size * k.toNat > (2 ^ 63 - 1) / 8 := by
    have z : (sizeLine : Nat) ≤ (2 ^ 63 - 1) / 8 := by decide
    omega
  have c2 : ¬ (!Builtin.List.listFitsIndex k) = true := by
    rw [fitsIndex_both h1 h2]
    decide
  have c3 : ¬ Builtin.List.listTooLong (its.toArray.size * k.toNat) = true := by
    rw [notLongL len]
    decide
  have new : List.foldl (fun x1 x2 => x1 ++ x2) #[] (List.replicate (if its.toArray.isEmpty = true then 0 else k.toNat) its.toArray) = (List.replicate k.toNat its).flatten.toArray := by
    rw [rep_arr]
    cases its with
    | nil => simp
    | cons a b => rw [if_neg (by simp)]
  refine wpAny_binaryOp_repeat_ref (T := "list") (U := "int") (by decide) ⟨_, g1, rfl⟩ (fun s1 => typeIs_int s1 k t) noFill_list_mul F.fills_int_mul F.slot_int_rmul repeat_list F.slot_int_index.lookup ?_
  refine call_meets F.slot_int_rmul (typeIs_int s k t) F.entry_int_rmul (F.args_int_rmul_2 _ _) (int___rmul___int_list k t l its.toArray n) ⟨g1, rfl, ⟨_, g1, rfl⟩, ?_⟩
  refine call_meets F.slot_list_mul ⟨_, g1, rfl⟩ F.entry_list_mul (F.args_list_mul_2 _ _) (AutoListH.list___mul___list_int_3 l its.toArray n k t c2 c1 c3) ⟨g1, ?_⟩
  rw [new]
  exact ⟨V.ref _, _, I.lnew (t' := s.toks) (r.rep k.toNat) (by rw [PyProof.Rows.lm_len_rep_flat, Nat.mul_comm]; exact hz), rfl, q _ I.fresh⟩
theorem op_pMul : OpR X (binaryOp .Mult) (r2 pMul) := by
  intro pins s σ H x y v u Q I hx hy h
  obtain ⟨G, d, e, r, sm, o1, o2, hf, hq⟩ := rN2 h
  unfold pMul at hf
  split at hf
  · rename_i i j heq
    cases heq
    split at hf
    · rename_i hc
      cases hf
      refine op_mul pins s σ H x y v u Q I hx hy ⟨_, _, op1_int o1, op1_int o2, ?_, hq _ _ (.old (.int _))⟩
      simp only [small64, Bool.or_eq_true, Bool.and_eq_true, decide_eq_true_eq] at hc
      exact hc
    · cases hf
  · rename_i ds k heq
    cases heq
    split at hf
    · rename_i hc
      cases hf
      simp only [small63, Bool.and_eq_true, decide_eq_true_eq] at hc
      obtain ⟨a, vs, rfl, ra, ha⟩ := op1_list sm o1
      exact op_times pins s σ H _ _ v u Q I hx hy ⟨a, k, vs, rfl, op1_int o2, ra, hc.1.1, hc.1.2, by rw [ha.length]; exact hc.2, fun p hp => hq _ _ (.new hp (.lst (ha.rep _)))⟩
    · cases hf
  · rename_i ds k heq
    cases heq
    split at hf
    · rename_i hc
      cases hf
      simp only [Bool.and_eq_true, decide_eq_true_eq] at hc
      obtain ⟨a, vs, rfl, ga, ra, ha⟩ := op1_tuple sm o1
      have hl : vs.length ≤ 1000 := by rw [ha.length]; exact hc.1.1
      by_cases z : vs = [] ∨ k = 1
      · refine op_timesT1 pins s σ H _ _ v u Q I hx hy ⟨a, k, vs, rfl, op1_int o2, sqT ra, z, hc.1.2, hc.2, ?_⟩
        have e : (List.replicate k.toNat ds).flatten = ds := by
          rcases z with z | z
          · subst z
            cases ha
            simp
          · subst z
            simp
        rw [e] at hq
        exact hq _ _ (.old (.tup ga ha))
      · rw [not_or] at z
        exact op_repT pins s σ H _ _ v u Q I hx hy ⟨a, k, vs, rfl, op1_int o2, sqT ra, z.1, by have := z.2; omega, hc.2, hl, fun p hp => hq _ _ (.tup hp (ha.rep _))⟩
    · cases hf
  · cases hf
theorem op_pDiv : OpR X (binaryOp .FloorDiv) (r2 pDiv) := by
  intro pins s σ H x y v u Q I hx hy h
  obtain ⟨G, d, e, r, sm, o1, o2, hf, hq⟩ := rN2 h
  unfold pDiv at hf
  split at hf
  · rename_i i j heq
    cases heq
    split at hf
    · rename_i hc
      cases hf
      simp only [Bool.and_eq_true, decide_eq_true_eq] at hc
      exact op_fdivN pins s σ H x y v u Q I hx hy ⟨_, _, op1_int o1, op1_int o2, hc, hq _ _ (.old (.int _))⟩
    · cases hf
  · cases hf
theorem op_pMod : OpR X (binaryOp .Mod) (r2 pMod) := by
  intro pins s σ H x y v u Q I hx hy h
  obtain ⟨G, d, e, r, sm, o1, o2, hf, hq⟩ := rN2 h
  unfold pMod at hf
  split at hf
  · rename_i i j heq
    cases heq
    split at hf
    · cases hf
    · rename_i hc
      cases hf
      exact op_modN pins s σ H x y v u Q I hx hy ⟨_, _, op1_int o1, op1_int o2, hc, hq _ _ (.old (.int _))⟩
  · cases hf
theorem un_pNeg : UnR X (unaryOp .USub) (fun x H Q => rN pNeg [x] H Q) := by
  intro pins s σ H x v Q I hx h
  obtain ⟨G, d, r, sm, o1, hf, hq⟩ := rN1 h
  unfold pNeg at hf
  split at hf
  · rename_i i heq
    cases heq
    cases hf
    exact un_neg pins s σ H x v Q I hx ⟨_, op1_int o1, hq _ _ (.old (.int _))⟩
  · cases hf
/-! ### comparisons -/
theorem room_min {u a b : Nat} (hu : u + 64 < cLine) (h : decide (min a b ≤ 60) = true) : u + min a b < cLine := by
  simp only [decide_eq_true_eq] at h
  omega
theorem cmp_pEq (hu : X.A.units + 64 < cLine) : OpR X (compareOp .Eq) (r2 pEq) := by
  intro pins s σ H x y v u Q I hx hy h
  obtain ⟨G, d, e, r, sm, o1, o2, hf, hq⟩ := rN2 h
  simp only [pEq] at hf
  split at hf
  · rename_i hc
    cases hf
    simp only [Bool.and_eq_true] at hc
    obtain ⟨as, r1⟩ := reads_of I (o1.rp sm) hc.1.1 hx
    obtain ⟨bs, r2⟩ := reads_of I (o2.rp sm) hc.1.2 hy
    exact SeqAt.eq_plain r1 r2 hc.1.1 hc.1.2 (room_min hu hc.2) ⟨.bl _, H, I, rfl, hq _ _ (.old (.bl _))⟩
  · cases hf
theorem cmp_pNe (hu : X.A.units + 64 < cLine) : OpR X (compareOp .NotEq) (r2 pNe) := by
  intro pins s σ H x y v u Q I hx hy h
  obtain ⟨G, d, e, r, sm, o1, o2, hf, hq⟩ := rN2 h
  simp only [pNe] at hf
  split at hf
  · rename_i hc
    cases hf
    simp only [Bool.and_eq_true] at hc
    obtain ⟨as, r1⟩ := reads_of I (o1.rp sm) hc.1.1 hx
    obtain ⟨bs, r2⟩ := reads_of I (o2.rp sm) hc.1.2 hy
    exact SeqAt.ne_plain r1 r2 hc.1.1 hc.1.2 (room_min hu hc.2) ⟨.bl _, H, I, rfl, hq _ _ (.old (.bl _))⟩
  · cases hf
theorem not_none {a : D} (h : (!isNone a) = true) : a ≠ .none := by
  intro e
  subst e
  simp [isNone] at h
theorem cmp_pLt (hu : X.A.units + 64 < cLine) : OpR X (compareOp .Lt) (r2 pLt) := by
  intro pins s σ H x y v u Q I hx hy h
  obtain ⟨G, d, e, r, sm, o1, o2, hf, hq⟩ := rN2 h
  simp only [pLt] at hf
  split at hf
  · rename_i hc
    cases hf
    simp only [cmpOk, Bool.and_eq_true] at hc
    obtain ⟨⟨⟨⟨p1, p2⟩, al⟩, nn⟩, sh⟩ := hc
    obtain ⟨as, r1⟩ := reads_of I (o1.rp sm) p1 hx
    obtain ⟨bs, r2⟩ := reads_of I (o2.rp sm) p2 hy
    exact PySem.W.lt_data r1 r2 al (not_none nn) (room_min hu sh) ⟨.bl _, H, I, rfl, hq _ _ (.old (.bl _))⟩
  · cases hf
theorem cmp_pLe (hu : X.A.units + 64 < cLine) : OpR X (compareOp .LtE) (r2 pLe) := by
  intro pins s σ H x y v u Q I hx hy h
  obtain ⟨G, d, e, r, sm, o1, o2, hf, hq⟩ := rN2 h
  simp only [pLe] at hf
  split at hf
  · rename_i hc
    cases hf
    simp only [cmpOk, Bool.and_eq_true] at hc
    obtain ⟨⟨⟨⟨p1, p2⟩, al⟩, nn⟩, sh⟩ := hc
    obtain ⟨as, r1⟩ := reads_of I (o1.rp sm) p1 hx
    obtain ⟨bs, r2⟩ := reads_of I (o2.rp sm) p2 hy
    exact PySem.W.le_data r1 r2 al (not_none nn) (room_min hu sh) ⟨.bl _, H, I, rfl, hq _ _ (.old (.bl _))⟩
  · cases hf
theorem cmp_pGt (hu : X.A.units + 64 < cLine) : OpR X (compareOp .Gt) (r2 pGt) := by
  intro pins s σ H x y v u Q I hx hy h
  obtain ⟨G, d, e, r, sm, o1, o2, hf, hq⟩ := rN2 h
  simp only [pGt] at hf
  split at hf
  · rename_i hc
    cases hf
    simp only [cmpOk, Bool.and_eq_true] at hc
    obtain ⟨⟨⟨⟨p1, p2⟩, al⟩, nn⟩, sh⟩ := hc
    obtain ⟨as, r1⟩ := reads_of I (o1.rp sm) p1 hx
    obtain ⟨bs, r2⟩ := reads_of I (o2.rp sm) p2 hy
    exact PySem.W.gt_data r1 r2 al (not_none nn) (room_min hu sh) ⟨.bl _, H, I, rfl, hq _ _ (.old (.bl _))⟩
  · cases hf
theorem cmp_pGe (hu : X.A.units + 64 < cLine) : OpR X (compareOp .GtE) (r2 pGe) := by
  intro pins s σ H x y v u Q I hx hy h
  obtain ⟨G, d, e, r, sm, o1, o2, hf, hq⟩ := rN2 h
  simp only [pGe] at hf
  split at hf
  · rename_i hc
    cases hf
    simp only [cmpOk, Bool.and_eq_true] at hc
    obtain ⟨⟨⟨⟨p1, p2⟩, al⟩, nn⟩, sh⟩ := hc
    obtain ⟨as, r1⟩ := reads_of I (o1.rp sm) p1 hx
    obtain ⟨bs, r2⟩ := reads_of I (o2.rp sm) p2 hy
    exact PySem.W.ge_data r1 r2 al (not_none nn) (room_min hu sh) ⟨.bl _, H, I, rfl, hq _ _ (.old (.bl _))⟩
  · cases hf
theorem isNone_iff {G H : Hp} {v : V} {d : D} (h : Op1 G H v d) : decide (v = .non) = isNone d := by
  rcases h with h | ⟨a, rfl, _, o, _, c⟩
  · cases h <;> first | rfl | (simp [isNone])
  · cases c <;> simp [isNone]
theorem cmp_pIs : OpR X (compareOp .Is) (r2 pIs) := by
  intro pins s σ H x y v u Q I hx hy h
  obtain ⟨G, d, e, r, sm, o1, o2, hf, hq⟩ := rN2 h
  unfold pIs at hf
  split at hf
  · rename_i z heq
    cases heq
    cases hf
    refine op_isN pins s σ H x y v u Q I hx hy ⟨op1_none o2, ?_⟩
    rw [isNone_iff o1]
    exact hq _ _ (.old (.bl _))
  · rename_i a b heq
    cases heq
    cases hf
    exact op_isBl pins s σ H x y v u Q I hx hy ⟨_, _, op1_bool o1, op1_bool o2, hq _ _ (.old (.bl _))⟩
  · cases hf
theorem cmp_pIsn : OpR X (compareOp .IsNot) (r2 pIsn) := by
  intro pins s σ H x y v u Q I hx hy h
  obtain ⟨G, d, e, r, sm, o1, o2, hf, hq⟩ := rN2 h
  unfold pIsn at hf
  split at hf
  · rename_i z heq
    cases heq
    cases hf
    refine op_notN pins s σ H x y v u Q I hx hy ⟨op1_none o2, ?_⟩
    rw [isNone_iff o1]
    exact hq _ _ (.old (.bl _))
  · rename_i a b heq
    cases heq
    cases hf
    exact op_notBl pins s σ H x y v u Q I hx hy ⟨_, _, op1_bool o1, op1_bool o2, hq _ _ (.old (.bl _))⟩
  · cases hf
end
end G6

namespace G6
open PySem PySem.Spec L2
/-! ### keys -/
theorem flat_key {G H : Hp} {v : V} {d : D} (h : Op1 G H v d) (f : flatK d = true) : ∃ k : Key, v = kV k ∧ d = kD k := by
  cases d <;> simp [flatK] at f
  · exact ⟨.inl _, op1_int h, rfl⟩
  · exact ⟨.inr _, op1_str h, rfl⟩
theorem flat_keyR {G : Hp} {v : V} {d : D} (h : Rp G v d) (f : flatK d = true) : ∃ k : Key, v = kV k ∧ d = kD k := flat_key (G := G) (H := G) (.inl h) f
theorem keys_of {G : Hp} : ∀ {vs : List V} {ds : List D}, RpAll G vs ds → ds.all flatK = true → ∃ ks : List Key, vs = ks.map kV ∧ ds = ks.map kD
  | _, _, .nil, _ => ⟨[], rfl, rfl⟩
  | _, _, .cons h r, f => by
    simp only [List.all_cons, Bool.and_eq_true] at f
    obtain ⟨k, rfl, rfl⟩ := flat_keyR h f.1
    obtain ⟨ks, rfl, rfl⟩ := keys_of r f.2
    exact ⟨k :: ks, rfl, rfl⟩
theorem flatK_kD (k : Key) : flatK (kD k) = true := by cases k <;> rfl
theorem eqv_key (k k' : Key) : PyData.eqv (kD k) (kD k') = decide (k = k') := by
  cases k with
  | inl i =>
    cases k' with
    | inl j => rw [key_ll]; simp [kD, PyData.eqv]
    | inr j => simp [kD, PyData.eqv]
  | inr i =>
    cases k' with
    | inl j => simp [kD, PyData.eqv]
    | inr j =>
      simp only [kD, PyData.eqv, key_rr]
      by_cases e : i = j
      · subst e; simp
      · simp [e]
theorem eqv_keys : ∀ ks ks' : List Key, PyData.eqvAll (ks.map kD) (ks'.map kD) = decide (ks = ks')
  | [], [] => rfl
  | [], _ :: _ => rfl
  | _ :: _, [] => rfl
  | k :: ks, k' :: ks' => by
    simp only [List.map_cons, PyData.eqvAll, eqv_key, eqv_keys ks ks']
    by_cases e : k = k'
    · subst e
      by_cases e2 : ks = ks'
      · subst e2; simp
      · simp [e2]
    · simp [e]
theorem eqv_tkey (ks ks' : List Key) : PyData.eqv (.tuple (ks.map kD)) (.tuple (ks'.map kD)) = decide (ks = ks') := by
  simp only [PyData.eqv, eqv_keys]
/-- both are there, or neither -/
inductive OptRp (G : Hp) : Option V → Option D → Prop
  | none : OptRp G none none
  | some {v : V} {d : D} : Rp G v d → OptRp G (some v) (some d)
theorem OptRp.isSome {G : Hp} {o : Option V} {d : Option D} (h : OptRp G o d) : o.isSome = d.isSome := by cases h <;> rfl
theorem OptRp.getD {G : Hp} {o : Option V} {d : Option D} {v : V} {e : D} (h : OptRp G o d) (r : Rp G v e) : Rp G (o.getD v) (d.getD e) := by
  cases h with
  | none => exact r
  | some h => exact h
theorem RpK.look {G : Hp} (k : Key) : ∀ {kvs : List (Key × V)} {ds : List (D × D)}, RpK G kvs ds → OptRp G (valV kvs k) (dLook ds (kD k))
  | _, _, .nil => .none
  | _, _, .cons (k := j) (r := r) (d := d) (ds := ds) h q => by
    by_cases e : j = k
    · subst e
      rw [valV_pos rfl]
      have : dLook ((kD j, d) :: ds) (kD j) = some d := by simp [dLook, eqv_key]
      rw [this]
      exact .some h
    · rw [valV_neg e]
      have : dLook ((kD j, d) :: ds) (kD k) = dLook ds (kD k) := by simp [dLook, eqv_key, e]
      rw [this]
      exact q.look k
theorem RpT.look {G : Hp} (k : List Key) : ∀ {kvs : List (List Key × V)} {ds : List (D × D)}, RpT G kvs ds → OptRp G (valV kvs k) (dLook ds (.tuple (k.map kD)))
  | _, _, .nil => .none
  | _, _, .cons (k := j) (r := r) (d := d) (ds := ds) h q => by
    by_cases e : j = k
    · subst e
      rw [valV_pos rfl]
      have : dLook ((.tuple (j.map kD), d) :: ds) (.tuple (j.map kD)) = some d := by simp [dLook, eqv_tkey]
      rw [this]
      exact .some h
    · rw [valV_neg e]
      have : dLook ((.tuple (j.map kD), d) :: ds) (.tuple (k.map kD)) = dLook ds (.tuple (k.map kD)) := by simp [dLook, eqv_tkey, e]
      rw [this]
      exact q.look k
theorem RpK.any {G : Hp} (k : Key) : ∀ {kvs : List (Key × V)} {ds : List (D × D)}, RpK G kvs ds → (kvs.any fun kv => decide (kv.1 = k)) = ds.any fun p => PyData.eqv p.1 (kD k)
  | _, _, .nil => rfl
  | _, _, .cons h q => by simp only [List.any_cons, eqv_key, q.any k]
theorem RpT.any {G : Hp} (k : List Key) : ∀ {kvs : List (List Key × V)} {ds : List (D × D)}, RpT G kvs ds → (kvs.any fun kv => decide (kv.1 = k)) = ds.any fun p => PyData.eqv p.1 (.tuple (k.map kD))
  | _, _, .nil => rfl
  | _, _, .cons h q => by simp only [List.any_cons, eqv_tkey, q.any k]
theorem RpK.repl {G : Hp} (k : Key) {v : V} {d : D} (rp : Rp G v d) : ∀ {kvs : List (Key × V)} {ds : List (D × D)}, RpK G kvs ds → RpK G (kvs.map fun kv => if kv.1 = k then (kv.1, v) else kv) (ds.map fun p => if PyData.eqv p.1 (kD k) = true then (p.1, d) else p)
  | _, _, .nil => .nil
  | _, _, .cons (k := j) h q => by
    simp only [List.map_cons, eqv_key, decide_eq_true_eq]
    by_cases e : j = k
    · simp only [e, if_true]
      exact .cons rp (q.repl k rp)
    · simp only [e, if_false]
      exact .cons h (q.repl k rp)
theorem RpT.repl {G : Hp} (k : List Key) {v : V} {d : D} (rp : Rp G v d) : ∀ {kvs : List (List Key × V)} {ds : List (D × D)}, RpT G kvs ds → RpT G (kvs.map fun kv => if kv.1 = k then (kv.1, v) else kv) (ds.map fun p => if PyData.eqv p.1 (.tuple (k.map kD)) = true then (p.1, d) else p)
  | _, _, .nil => .nil
  | _, _, .cons (k := j) h q => by
    simp only [List.map_cons, eqv_tkey, decide_eq_true_eq]
    by_cases e : j = k
    · simp only [e, if_true]
      exact .cons rp (q.repl k rp)
    · simp only [e, if_false]
      exact .cons h (q.repl k rp)
theorem RpK.snoc {G : Hp} {k : Key} {v : V} {d : D} (rp : Rp G v d) : ∀ {kvs : List (Key × V)} {ds : List (D × D)}, RpK G kvs ds → RpK G (kvs ++ [(k, v)]) (ds ++ [(kD k, d)])
  | _, _, .nil => .cons rp .nil
  | _, _, .cons h q => .cons h (q.snoc rp)
theorem RpT.snoc {G : Hp} {k : List Key} {v : V} {d : D} (rp : Rp G v d) : ∀ {kvs : List (List Key × V)} {ds : List (D × D)}, RpT G kvs ds → RpT G (kvs ++ [(k, v)]) (ds ++ [(.tuple (k.map kD), d)])
  | _, _, .nil => .cons rp .nil
  | _, _, .cons h q => .cons h (q.snoc rp)
theorem RpK.put {G : Hp} {kvs : List (Key × V)} {ds : List (D × D)} (h : RpK G kvs ds) (k : Key) {v : V} {d : D} (rp : Rp G v d) : RpK G (putK kvs k v) (dPut ds (kD k) d) := by
  unfold putK dPut
  rw [h.any k]
  split
  · exact h.repl k rp
  · exact h.snoc rp
theorem RpT.put {G : Hp} {kvs : List (List Key × V)} {ds : List (D × D)} (h : RpT G kvs ds) (k : List Key) {v : V} {d : D} (rp : Rp G v d) : RpT G (putK kvs k v) (dPut ds (.tuple (k.map kD)) d) := by
  unfold putK dPut
  rw [h.any k]
  split
  · exact h.repl k rp
  · exact h.snoc rp
theorem RpK.length {G : Hp} : ∀ {kvs : List (Key × V)} {ds : List (D × D)}, RpK G kvs ds → kvs.length = ds.length
  | _, _, .nil => rfl
  | _, _, .cons _ q => by simp only [List.length_cons, q.length]
theorem RpT.length {G : Hp} : ∀ {kvs : List (List Key × V)} {ds : List (D × D)}, RpT G kvs ds → kvs.length = ds.length
  | _, _, .nil => rfl
  | _, _, .cons _ q => by simp only [List.length_cons, q.length]
theorem RpK.keys {G : Hp} : ∀ {kvs : List (Key × V)} {ds : List (D × D)}, RpK G kvs ds → RpAll G (kvs.map fun kv => kV kv.1) (ds.map (·.1))
  | _, _, .nil => .nil
  | _, _, .cons (k := k) _ q => by
    refine .cons ?_ q.keys
    cases k with
    | inl i => exact .int i
    | inr i => exact .str i
theorem RpK.flat {G : Hp} : ∀ {kvs : List (Key × V)} {ds : List (D × D)}, RpK G kvs ds → ds.all (fun p => flatK p.1) = true
  | _, _, .nil => rfl
  | _, _, .cons _ q => by simp only [List.all_cons, flatK_kD, q.flat]; rfl
theorem tupK_of (ks : List Key) : tupK (.tuple (ks.map kD)) = true := by
  simp only [tupK, List.all_map, List.all_eq_true]
  intro k _
  exact flatK_kD k
theorem not_both {d : D} : flatK d = true → tupK d = true → False := by cases d <;> simp [flatK, tupK]
theorem RpT.tups {G : Hp} : ∀ {kvs : List (List Key × V)} {ds : List (D × D)}, RpT G kvs ds → ds.all (fun p => tupK p.1) = true
  | _, _, .nil => rfl
  | _, _, .cons _ q => by simp only [List.all_cons, tupK_of, q.tups]; rfl
/-! ### an empty dict serves flat keys and tuples alike -/
section
variable {X : Cx} {pins : List (Addr × Obj)} {σ : L2.St} {H : Hp} {s : Shared} {a : Addr}
theorem upd_self {o : HO} (h : H a = some o) : upd H a o = H := by
  funext b
  by_cases e : b = a
  · subst e; rw [upd_same, h]
  · rw [upd_ne e]
theorem flip_T (I : Inv X pins σ H s) (h : H a = some (.dK [])) : Inv X pins σ (upd H a (.dT [])) s := by
  obtain ⟨_, hs, vs, kv, ob, es, ep, g, xd, dd, hes⟩ := I.hok a _ h
  cases kv
  refine I.write (x := a) (e := a) (h' := s.heap) (t' := s.toks) (by rw [h]; trivial) (.inl rfl) (fun b u _ q => q) ⟨_, g⟩ ?_
  have z : es.toList = [] := by
    have q := hes.2.1
    cases w : es.toList with
    | nil => rfl
    | cons x r => rw [w] at q; cases q
  exact ⟨Nat.zero_le _, hs, [], .nil, ob, es, ep, g, xd, dd, z, by simp⟩
theorem flip_K (I : Inv X pins σ H s) (h : H a = some (.dT [])) : Inv X pins σ (upd H a (.dK [])) s := by
  obtain ⟨_, hs, xs, kv, ob, es, ep, g, xd, dd, hes, _⟩ := I.hok a _ h
  cases kv
  refine I.write (x := a) (e := a) (h' := s.heap) (t' := s.toks) (by rw [h]; trivial) (.inl rfl) (fun b u _ q => q) ⟨_, g⟩ ?_
  have z : es.toList = [] := hes
  have z2 : es = #[] := by simpa using z
  subst z2
  exact ⟨Nat.zero_le _, hs, [], .nil, ob, #[], ep, g, xd, dd, (fun x hx => by simp at hx), Pairs.nil, by simp⟩
end
end G6

namespace G6
open PySem PySem.Spec L2
/-- what a dict holds at a key, whatever kind an empty one was laid as -/
def DX (H : Hp) (a : Addr) (y : V) (o : Option V) : Prop := DGet H a y o ∨ (o = none ∧ ((H a = some (.dK []) ∧ ∃ b ks, y = .ref b ∧ H b = some (.tup (List.map kV ks))) ∨ (H a = some (.dT []) ∧ ∃ k, y = kV k)))
section
variable {X : Cx} {pins : List (Addr × Obj)} {σ : L2.St} {H : Hp} {s : Shared} {a : Addr} {y : V} {u : Value} {o : Option V} {A : Around} {E : Value → Shared → Prop}
/-- whatever is done with a dict by what it holds -/
theorem dx_by {P : Prop} (I : Inv X pins σ H s) (g : DX H a y o)
    (h : ∀ H2, Inv X pins σ H2 s → DGet H2 a y o → (∀ s2, Inv X pins σ H2 s2 → Inv X pins σ H s2) → P) : P := by
  rcases g with g | ⟨rfl, ⟨e, b, ks, rfl, eb⟩ | ⟨e, k, rfl⟩⟩
  · exact h H I g fun _ z => z
  · have nb : b ≠ a := fun z => by rw [z, e] at eb; cases eb
    refine h _ (flip_T I e) (.inr ⟨[], ks, b, .inl upd_same, rfl, by rw [upd_ne nb]; exact eb, rfl⟩) fun s2 I2 => ?_
    have q := flip_K I2 upd_same
    rw [upd_upd, upd_self e] at q
    exact q
  · refine h _ (flip_K I e) (.inl ⟨[], k, .inl upd_same, rfl, rfl⟩) fun s2 I2 => ?_
    have q := flip_T I2 upd_same
    rw [upd_upd, upd_self e] at q
    exact q
theorem dx_in {Q : Value → Shared → Prop} (hu : A.units + 1 < cLine) (I : Inv X pins σ H s) (g : DX H a y o) (ry : RelV y u) (h : ∀ s', Inv X pins σ H s' → Q (.bool o.isSome) s') : wpAny (model X.prog X.w) A (compareOp .In u (.ref a)) Q E s :=
  dx_by I g fun H2 I2 g2 back => d_in hu I2 g2 ry fun s' I' => h s' (back s' I')
theorem dx_nin {Q : Value → Shared → Prop} (hu : A.units + 1 < cLine) (I : Inv X pins σ H s) (g : DX H a y o) (ry : RelV y u) (h : ∀ s', Inv X pins σ H s' → Q (.bool (!o.isSome)) s') : wpAny (model X.prog X.w) A (compareOp .NotIn u (.ref a)) Q E s :=
  dx_by I g fun H2 I2 g2 back => d_notIn hu I2 g2 ry fun s' I' => h s' (back s' I')
end
/-- a dict and a key of its kind -/
theorem dx_of {G H : Hp} {x y : V} {ds : List (D × D)} {k : D} (sm : Same G H) (hd : Op1 G H x (.dict ds)) (hk : Op1 G H y k) (fit : kFits ds k = true) : ∃ a o, x = .ref a ∧ DX H a y o ∧ OptRp G o (dLook ds k) := by
  obtain ⟨a, rfl, q⟩ := op1_dict sm hd
  simp only [kFits, Bool.or_eq_true, Bool.and_eq_true] at fit
  rcases fit with ⟨fk, fa⟩ | ⟨fk, fa⟩
  · obtain ⟨j, rfl, rfl⟩ := flat_key hk fk
    rcases q with ⟨kvs, r, h⟩ | ⟨kvs, r, h⟩
    · exact ⟨a, _, rfl, .inl (.inl ⟨kvs, j, r.rd, rfl, rfl⟩), h.look j⟩
    · cases h with
      | nil =>
        rcases r with r | ⟨n, _⟩
        · exact ⟨a, none, rfl, .inr ⟨rfl, .inr ⟨r, j, rfl⟩⟩, .none⟩
        · exact absurd rfl n
      | cons h1 h2 =>
        exfalso
        simp only [List.all_cons, Bool.and_eq_true] at fa
        exact not_both fa.1 (tupK_of _)
  · cases k with
    | tuple ks =>
      obtain ⟨b, vs, rfl, gb, hb, hv⟩ := op1_tuple sm hk
      obtain ⟨js, rfl, rfl⟩ := keys_of hv fk
      rcases q with ⟨kvs, r, h⟩ | ⟨kvs, r, h⟩
      · cases h with
        | nil =>
          rcases r with r | ⟨n, _⟩
          · exact ⟨a, none, rfl, .inr ⟨rfl, .inl ⟨r, b, js, rfl, hb⟩⟩, .none⟩
          · exact absurd rfl n
        | cons h1 h2 =>
          exfalso
          simp only [List.all_cons, Bool.and_eq_true] at fa
          exact not_both (flatK_kD _) fa.1
      · exact ⟨a, _, rfl, .inl (.inr ⟨kvs, js, b, r.rd, rfl, hb, rfl⟩), h.look js⟩
    | _ => simp [tupK] at fk
section
variable {X : Cx}
theorem room_in {u a b : Nat} (hu : u + 64 < cLine) (h : decide (min a b ≤ 60) = true) : u + 1 + min a b < cLine := by
  simp only [decide_eq_true_eq] at h
  omega
theorem plain_list {xs : List D} (h : PyData.plainAll xs = true) : (PyData.list xs).plain = true := by simpa [PyData.plain] using h
theorem plain_tuple {xs : List D} (h : PyData.plainAll xs = true) : (PyData.tuple xs).plain = true := by simpa [PyData.plain] using h
theorem cmp_pIn (hu : X.A.units + 64 < cLine) : OpR X (compareOp .In) (r2 pIn) := by
  intro pins s σ H x y v u Q I hx hy h
  obtain ⟨G, d, e, r, sm, o1, o2, hf, hq⟩ := rN2 h
  unfold pIn at hf
  split at hf
  · rename_i z xs heq
    cases heq
    split at hf
    · rename_i hc
      cases hf
      simp only [inOk, Bool.and_eq_true] at hc
      obtain ⟨as, r1⟩ := reads_of I (o1.rp sm) hc.1.1 hx
      obtain ⟨bs, r2⟩ := reads_of I (o2.rp sm) (plain_list hc.1.2) hy
      exact SeqAt.in_list_data r2 r1 hc.1.2 hc.1.1 (room_in hu hc.2) ⟨.bl _, H, I, rfl, hq _ _ (.old (.bl _))⟩
    · cases hf
  · rename_i z xs heq
    cases heq
    split at hf
    · rename_i hc
      cases hf
      simp only [inOk, Bool.and_eq_true] at hc
      obtain ⟨as, r1⟩ := reads_of I (o1.rp sm) hc.1.1 hx
      obtain ⟨bs, r2⟩ := reads_of I (o2.rp sm) (plain_tuple hc.1.2) hy
      exact SeqAt.in_tuple_data r2 r1 hc.1.2 hc.1.1 (room_in hu hc.2) ⟨.bl _, H, I, rfl, hq _ _ (.old (.bl _))⟩
    · cases hf
  · rename_i z kvs heq
    cases heq
    split at hf
    · rename_i hc
      cases hf
      obtain ⟨a, o, rfl, dx, or⟩ := dx_of sm o2 o1 hc
      cases hy
      refine dx_in (by omega) I dx hx fun s' I' => ⟨.bl _, H, I', rfl, ?_⟩
      rw [or.isSome]
      exact hq _ _ (.old (.bl _))
    · cases hf
  · cases hf
theorem cmp_pNin (hu : X.A.units + 64 < cLine) : OpR X (compareOp .NotIn) (r2 pNin) := by
  intro pins s σ H x y v u Q I hx hy h
  obtain ⟨G, d, e, r, sm, o1, o2, hf, hq⟩ := rN2 h
  unfold pNin at hf
  split at hf
  · rename_i z xs heq
    cases heq
    split at hf
    · rename_i hc
      cases hf
      simp only [inOk, Bool.and_eq_true] at hc
      obtain ⟨as, r1⟩ := reads_of I (o1.rp sm) hc.1.1 hx
      obtain ⟨bs, r2⟩ := reads_of I (o2.rp sm) (plain_list hc.1.2) hy
      exact SeqAt.notIn_list_data r2 r1 hc.1.2 hc.1.1 (room_in hu hc.2) ⟨.bl _, H, I, rfl, hq _ _ (.old (.bl _))⟩
    · cases hf
  · rename_i z xs heq
    cases heq
    split at hf
    · rename_i hc
      cases hf
      simp only [inOk, Bool.and_eq_true] at hc
      obtain ⟨as, r1⟩ := reads_of I (o1.rp sm) hc.1.1 hx
      obtain ⟨bs, r2⟩ := reads_of I (o2.rp sm) (plain_tuple hc.1.2) hy
      exact SeqAt.notIn_tuple_data r2 r1 hc.1.2 hc.1.1 (room_in hu hc.2) ⟨.bl _, H, I, rfl, hq _ _ (.old (.bl _))⟩
    · cases hf
  · rename_i z kvs heq
    cases heq
    split at hf
    · rename_i hc
      cases hf
      obtain ⟨a, o, rfl, dx, or⟩ := dx_of sm o2 o1 hc
      cases hy
      refine dx_nin (by omega) I dx hx fun s' I' => ⟨.bl _, H, I', rfl, ?_⟩
      rw [or.isSome]
      exact hq _ _ (.old (.bl _))
    · cases hf
  · cases hf
/-! ### a[i] -/
theorem atI_rp {G : Hp} {vs : List V} {ds : List D} {i : Int} {d : D} (h : RpAll G vs ds) (e : atI ds i = some d) : ∃ v, atI vs i = some v ∧ Rp G v d := by
  unfold atI at e ⊢
  rw [h.length]
  cases q : ixN ds.length i with
  | none => rw [q] at e; cases e
  | some j =>
    rw [q] at e
    exact h.get e
theorem dict_is {pins : List (Addr × Obj)} {σ : L2.St} {H : Hp} {s : Shared} {a : Addr} {y : V} {o : Option V} (I : Inv X pins σ H s) (g : DX H a y o) : s.TypeIs (.ref a) "dict" := dx_by I g fun H2 I2 g2 _ => dict_typeIs I2 g2
theorem tail_by {value slice : Expr} {T id : String} {s : Shared} {o i : Value} {Q : Value → Shared → Prop} {E : Value → Shared → Prop} (hT : s.TypeIs o T) (hl : typeLookup (.type T) "__getitem__" = pure (some (.builtin id))) (hs : subscripted slice false o i = operate [o, i] (getItem o i))
    (h : wpAny (model X.prog X.w) X.A (getItem o i) Q E s) : wpAny (model X.prog X.w) X.A (PyProof.Rows.subscriptTail value slice o i) Q E s := by
  unfold PyProof.Rows.subscriptTail
  refine wpAny_bind ?_
  rw [getitemInPython_of_ne hT.not_modules]
  refine wpAny_bind (wpAny_specialOf hT hl ?_)
  have go : wpAny (model X.prog X.w) X.A (subscripted slice false o i) (fun r s1 => wpAny (model X.prog X.w) X.A (letTemporaryGo value o r >>= fun _ => pure r) Q E s1) E s := by
    rw [hs]
    exact wpAny_operating (wpAny_mono h (fun r s1 h1 => wpAny_bind (wpAny_letTemporaryGo (wpAny_pure h1))) fun _ _ z => z)
  first
    | exact wpAny_pure (wpAny_bind go)
    | exact wpAny_bind (wpAny_pure (wpAny_bind go))
    | exact wpAny_bind go
theorem ix_pIx (hu : X.A.units + 64 < cLine) : IxR X (r2 pIx) := by
  intro value slice pins s σ H x y v u Q I hx hy h hs
  obtain ⟨G, d, e, r, sm, o1, o2, hf, hq⟩ := rN2 h
  unfold pIx at hf
  split at hf
  · rename_i xs i heq
    cases heq
    obtain ⟨d, hd, rfl⟩ := Option.map_eq_some_iff.mp hf
    obtain ⟨a, vs, rfl, ra, ha⟩ := op1_list sm o1
    obtain ⟨z, hz, rz⟩ := atI_rp ha hd
    exact ix_list value slice pins s σ H _ y v u Q I hx hy ⟨a, vs, i, z, rfl, op1_int o2, sqL ra, hz, hq _ _ (.old rz)⟩ hs
  · rename_i xs i heq
    cases heq
    obtain ⟨d, hd, rfl⟩ := Option.map_eq_some_iff.mp hf
    obtain ⟨a, vs, rfl, _, ra, ha⟩ := op1_tuple sm o1
    obtain ⟨z, hz, rz⟩ := atI_rp ha hd
    exact ix_tup value slice pins s σ H _ y v u Q I hx hy ⟨a, vs, i, z, rfl, op1_int o2, sqT ra, hz, hq _ _ (.old rz)⟩ hs
  · rename_i kvs k heq
    cases heq
    split at hf
    · rename_i hc
      obtain ⟨d, hd, rfl⟩ := Option.map_eq_some_iff.mp hf
      obtain ⟨a, o, rfl, dx, or⟩ := dx_of sm o1 o2 hc
      cases hx
      rw [hd] at or
      cases or with
      | some rz => exact tail_by (dict_is I dx) PySem.F.slot_dict_getitem.lookup hs (dx_by I dx fun H2 I2 g2 back => d_getItem (by omega) I2 g2 hy fun w' s' I' rw' => ⟨_, H, back s' I', rw', hq _ _ (.old rz)⟩)
    · cases hf
  · cases hf
end
end G6

namespace G6
open PySem PySem.Spec L2
/-- what can be sorted here: as the library tells, or the empty tuple alone -/
def SortX (ds : List D) : Prop := PySem.W.Sortable ds ∨ ds = [.tuple []]
open PySem.W PyProof.Rows in
theorem sortsX {prog : Program} {w : World} {A : Around} {s : Shared} {vs : List Value} {ds : List D} (e : EachIs (fun v d => ∃ as, Reads s.heap v d as) vs ds) (hal : AllAlike ds) (hk : SortX ds) (hu : ∀ d, d ∈ ds → A.units + d.depth < cLine) : SortsAt prog w A s (dataKind s.heap ds) vs := by
  rcases hk with hk | rfl
  · exact SortsAt.data e hal hk hu
  · refine ⟨fun v hv => ?_, tuples' true, ?_, fun h2 => ?_⟩
    · obtain ⟨d, hd, as, r⟩ := e.left v hv
      exact ⟨_, dataKind_some hal hd r⟩
    · intro E x y a b Q ha hb hq
      obtain ⟨d, as, hd, ra, rfl⟩ := dataKind_inv ha
      obtain ⟨d', as', hd', rb, rfl⟩ := dataKind_inv hb
      rw [List.mem_singleton] at hd hd'
      subst hd
      subst hd'
      have hq' : Q (dataLt (.tuple []) (.tuple [])) s := hq
      rw [dataLt_tuple] at hq'
      have hr := hu (.tuple []) List.mem_cons_self
      cases ra with
      | @tuple l o xs n _ _ h1 h2 h3 h4 =>
        cases rb with
        | @tuple l' o' xs' n' _ _ k1 k2 k3 k4 =>
          have n1 : xs.size = ([] : List D).length := by simpa using SeqAt.ReadsAll.length _ _ _ h4
          have n2 : xs'.size = ([] : List D).length := by simpa using SeqAt.ReadsAll.length _ _ _ k4
          exact kat_lt h1 h3 k1 k3 (katLex_alike [] [] 0 _ _ _ _ h4 k4 (by simp [alikeAll]) (by simp [PyData.depthAll]; have := hr; simp [PyData.depth] at this; omega) (fun hb _ x r t ex => by cases ex) (by rw [n1, n2]) hq')
    · cases e with
      | cons h t => cases t; simp at h2
/-! ### sorted of whatever is collected -/
section
variable {prog : Program} {w : World} {A : Around} {E : Value → Shared → Prop} {s : Shared}
/-- the items of v, with what stood left as it was -/
def Collects (prog : Program) (w : World) (s : Shared) (v : Value) (P : List Value → Prop) : Prop :=
  ∀ (A : Around) (E : Value → Shared → Prop) (Q : List Value → Shared → Prop), A.handled = none → (∀ vs h1 tk, P vs → (∀ b o, s.heap.get? b = some o → h1.get? b = some o) → Q vs { s with heap := h1, toks := tk }) → wpAny (model prog w) A (collect v) Q E s
open PyProof.Rows in
theorem collects_list {l : Addr} {vs : List Value} (hl : s.heap.IsList l vs.toArray) (hz : vs.length ≤ sizeLine) : Collects prog w s (.ref l) (fun us => us = vs) := fun A E Q _ h => by
  refine collect_list hl (h _ _ s.toks rfl fun b o e => ?_) hz
  have hb : b ≠ s.heap.objs.size := Nat.ne_of_lt (Heap.lt_size e)
  rw [Heap.get?_update_ne _ _ _ _ hb]
  exact Heap.get?_push_of_some _ e
open PyProof.Rows in
theorem collects_tuple {l : Addr} {vs : List Value} (hl : s.heap.IsTuple l vs.toArray) (hz : vs.length ≤ sizeLine) : Collects prog w s (.ref l) (fun us => us = vs) := fun A E Q _ h => by
  obtain ⟨o, ho, hc, n, hd⟩ := id hl
  unfold collect
  refine wpAny_bind (wpAny_runValue (codeAny_builtin entry_proto_collect' ?_))
  show wpAny _ _ (do again (.builtin "list.__iadd__" ⟨[← newList [], .ref l], []⟩)) _ _ s
  refine wpAny_bind (wpAny_newList (wpAny_pure ⟨Code.quiet_builtin _ (by decide +kernel), codeAny_builtin entry_list_iadd' ?_⟩))
  show wpAny _ _ (Builtin.List.listExtendWith (.ref s.heap.objs.size) (.ref l) (.ref s.heap.objs.size)) _ _ { s with heap := s.heap.push (seqObj "list" #[] 0) }
  unfold Builtin.List.listExtendWith
  have go : (s.heap.push (seqObj "list" #[] 0)).get? l = some o := Heap.get?_push_of_some _ ho
  refine wpAny_bind (wpAny_typeOf (T := "tuple") ⟨o, go, hc⟩ ?_)
  rw [if_pos (by rw [show (Value.type "tuple" == Value.type "tuple") = true from rfl, Bool.or_true])]
  refine wpAny_bind (listItems_at go hd ?_)
  refine wpAny_bind (listItems_at (xs := #[]) (n := 0) (Heap.get?_push_size _ rfl) rfl ?_)
  rw [if_neg (by simp)]
  refine wpAny_bind (listUpdate_at (xs := #[]) (n := 0) (Heap.get?_push_size _ rfl) rfl ?_ (Nat.zero_le _) (by simp only [Array.size_append, List.size_toArray, List.length_nil]; omega))
  refine wpAny_pure ?_
  show wpAny (model prog w) A (do
      let o ← load s.heap.objs.size
      match o.data with
      | .seq xs _ => pure xs.toList
      | _ => unsupported "internal:collect") Q E { s with heap := (s.heap.push (seqObj "list" #[] 0)).update s.heap.objs.size (Obj.mapSeq (· ++ vs.toArray)) }
  refine wpAny_bind (wpAny_load (get?_update_seq (Heap.get?_push_size _ rfl) _) ?_)
  show wpAny _ _ (pure ((#[] : Array Value) ++ vs.toArray).toList) Q E _
  rw [show ((#[] : Array Value) ++ vs.toArray).toList = vs by simp]
  refine wpAny_pure (h _ _ s.toks rfl fun b x e => ?_)
  have hb : b ≠ s.heap.objs.size := Nat.ne_of_lt (Heap.lt_size e)
  rw [Heap.get?_update_ne _ _ _ _ hb]
  exact Heap.get?_push_of_some _ e
open PyProof.Rows PySem.W in
theorem sorted_gen {v : Value} {ds : List D} {P : List Value → Prop} {R : Value → D → Prop} {Q : Value → Shared → Prop} (hh : A.handled = none) (hc : Collects prog w s v P)
    (hP : ∀ vs, P vs → vs.length ≤ sizeLine ∧ EachIs R vs ds ∧ EachIs (fun u d => ∃ as, Reads s.heap u d as) vs ds) (hal : AllAlike ds) (hk : SortX ds) (hu : ∀ d, d ∈ ds → A.units + 2 + d.depth < cLine)
    (h : ∀ (out : List Value) (h1 h2 : Heap) (tk : Nat) (p : Addr), EachIs R out (sortD ds) → (∀ b o, s.heap.get? b = some o → h1.get? b = some o) → (∀ b o, h1.get? b = some o → h2.get? b = some o) → h1.objs.size ≤ p → (∃ n, h2.get? p = some (seqObj "list" out.toArray n)) → Q (.ref p) { s with heap := h2, toks := tk }) :
    wpAny (model prog w) A (call (.builtin "sorted") [v]) Q E s := by
  refine call_function_entry_kw kind_sorted plain_sorted entry_sorted (args_sorted1 v) ?_
  unfold Builtin.«sorted»
  refine wpAny_bind (m := checkCount "sorted" 1 1 _) (wpAny_pure ?_)
  refine wpAny_bind (hc A.in1 _ _ hh fun vs h1 tk hp k1 => ?_)
  obtain ⟨hz, e, er⟩ := hP vs hp
  refine wpAny_bind (wpAny_newList ?_ hz)
  have at1 : (h1.push (seqObj "list" vs.toArray 0)).get? h1.objs.size = some (seqObj "list" vs.toArray 0) := Heap.get?_push_size _ rfl
  have old : ∀ b o, h1.get? b = some o → b ≠ h1.objs.size ∧ (h1.push (seqObj "list" vs.toArray 0)).get? b = some o := fun b o eo => ⟨Nat.ne_of_lt (Heap.lt_size eo), Heap.get?_push_of_some _ eo⟩
  have er2 : EachIs (fun u d => ∃ as, Reads (sortingHeap (h1.push (seqObj "list" vs.toArray 0)) h1.objs.size vs) u d as) vs ds := er.mono fun _ _ ⟨as, r⟩ => ⟨as, PyProof.Rows.Reads.keeps (fun b o eo => sortingHeap_old (old b o (k1 b o eo)).1 (old b o (k1 b o eo)).2) r⟩
  have S : SortsAt prog w A.in1.in1 { s with heap := sortingHeap (h1.push (seqObj "list" vs.toArray 0)) h1.objs.size vs, toks := tk } (dataKind (sortingHeap (h1.push (seqObj "list" vs.toArray 0)) h1.objs.size vs) ds) vs :=
    sortsX (s := { s with heap := sortingHeap (h1.push (seqObj "list" vs.toArray 0)) h1.objs.size vs, toks := tk }) er2 hal hk hu
  refine wpAny_bind (wpAny_holding (wpAny_call_entry_kw slot_list_sort ⟨_, at1, rfl⟩ entry_list_sort (list_sort_vals (s := { s with heap := h1.push (seqObj "list" vs.toArray 0), toks := tk }) at1 S hz ⟨_, rfl, ?_⟩) (args_list_sort _)))
  refine wpAny_pure ⟨_, rfl, ?_⟩
  refine h (sortVals (dataKind (sortingHeap (h1.push (seqObj "list" vs.toArray 0)) h1.objs.size vs) ds) false vs vs) h1 _ tk _ ?_ k1 (fun b o eo => ?_) (Nat.le_refl _) (sortedHeap_at at1)
  · have q := sortVals_data (h' := sortingHeap (h1.push (seqObj "list" vs.toArray 0)) h1.objs.size vs) (enc := fun d : D => d) false e er2 (by simpa using hal)
    simpa [sortD] using q
  · rw [sortedHeap_old (old b o eo).1 (Heap.lt_size (old b o eo).2)]
    exact (old b o eo).2
end
/-- the values stand for data, each -/
def RG (G : Hp) (u : Value) (d : D) : Prop := ∃ v, RelV v u ∧ Rp G v d
open PySem.W in
theorem each_of {G : Hp} : ∀ {vs : List V} {us : List Value} {ds : List D}, Vals vs us → RpAll G vs ds → EachIs (RG G) us ds
  | _, _, _, .nil, .nil => .nil
  | _, _, _, .cons r rs, .cons h hs => .cons ⟨_, r, h⟩ (each_of rs hs)
open PySem.W in
theorem of_each {G : Hp} : ∀ {us : List Value} {ds : List D}, EachIs (RG G) us ds → ∃ vs, Vals vs us ∧ RpAll G vs ds
  | _, _, .nil => ⟨[], .nil, .nil⟩
  | _, _, .cons ⟨v, r, h⟩ t => by
    obtain ⟨vs, r2, h2⟩ := of_each t
    exact ⟨v :: vs, .cons r r2, .cons h h2⟩
open PySem.W in
theorem each_reads {h : Heap} : ∀ {us : List Value} {ds : List D} {as : List Addr}, ReadsAll h us ds as → EachIs (fun u d => ∃ as, Reads h u d as) us ds
  | _, _, _, .nil => .nil
  | _, _, _, .cons r t => .cons ⟨_, r⟩ (each_reads t)
theorem sortD_length (xs : List D) : (sortD xs).length = xs.length := List.length_mergeSort _
section
variable {X : Cx}
theorem sortOk_of {xs : List D} (h : sortOk xs = true) : PyData.plainAll xs = true ∧ PySem.W.AllAlike xs ∧ SortX xs ∧ ∀ d ∈ xs, d.depth ≤ 60 := by
  simp only [sortOk, Bool.and_eq_true, Bool.or_eq_true, allAlike, List.all_eq_true, decide_eq_true_eq] at h
  obtain ⟨⟨⟨p, al⟩, so⟩, dp⟩ := h
  refine ⟨p, fun d hd e he => al d hd e he, ?_, dp⟩
  rcases so with (so | so) | so
  · refine .inl (.inl fun d hd => ?_)
    have q := so d hd
    cases d with
    | tuple ys =>
      cases ys with
      | nil => simp [isTup1] at q
      | cons y r => exact ⟨y, r, rfl⟩
    | _ => simp [isTup1] at q
  · refine .inl (.inr fun d hd => ?_)
    have q := so d hd
    cases d <;> simp [notTup] at q ⊢
  · refine .inr ?_
    unfold isE1 at so
    split at so
    · rfl
    · cases so
/-- sorted of what is collected as data -/
theorem sorted_do {pins : List (Addr × Obj)} {σ : L2.St} {G H : Hp} {s : Shared} {v : Value} {vs : List V} {P : List Value → Prop} {ds : List D} {Q : VK} (hc : X.calm = true) (hu : X.A.units + 64 < cLine) (I : Inv X pins σ H s) (sm : Same G H) (col : Collects X.prog X.w s v P) (rv : ∀ us, P us → Vals vs us) (rp : RpAll G vs ds)
    (hz : vs.length ≤ sizeLine) (ok : sortOk ds = true) (hq : ∀ v H', Out G H H' v (.list (sortD ds), true) → Q v H') : wpAny (model X.prog X.w) X.A (call (.builtin "sorted") [v]) (EP X pins σ Q) X.xe s := by
  obtain ⟨pl, al, so, dp⟩ := sortOk_of ok
  refine sorted_gen (R := RG G) (I.ok.hd hc) col (fun us hp => ?_) al so (fun d hd => by have := dp d hd; omega) fun out h1 h2 tk p eo k1 k2 big ho => ?_
  · obtain ⟨as, rd⟩ := readsAll_of I (rp.up sm) pl (rv us hp)
    exact ⟨by rw [← (rv us hp).length]; exact hz, each_of (rv us hp) rp, each_reads rd⟩
  · obtain ⟨ws, rw', rp'⟩ := of_each eo
    obtain ⟨n, ho⟩ := ho
    have I1 : Inv X pins σ H { s with heap := h1, toks := tk } := I.kept k1
    have hp : H p = none := I1.hok.fresh big
    have len : ws.length ≤ sizeLine := by
      rw [rp'.length, sortD_length, ← rp.length]
      exact hz
    exact ⟨V.ref p, upd H p (.lst ws), I1.laid (t' := tk) k2 big ⟨len, out, n, rw', ho⟩, rfl, hq _ _ (.new hp (.lst rp'))⟩
theorem collects_dk {pins : List (Addr × Obj)} {σ : L2.St} {H : Hp} {s : Shared} {a : Addr} {kvs : List (Key × V)} (I : Inv X pins σ H s) (h : Rd H a (.dK kvs)) : Collects X.prog X.w s (.ref a) (fun us => Vals (kvs.map fun kv => kV kv.1) us) := fun A E Q hh hq => by
  obtain ⟨z, lo, vs, rel, dd⟩ := dk_rd I.hok h
  obtain ⟨ep, hat⟩ := dd.dictAt
  have hl : kvs.length = vs.length := rel.length
  refine PySem.W.kdu_collect (PySem.W.kdl_dict (knd := mixKind X.prog X.w) (kvs := vs) (ep := ep) lo) hh hat (by rw [← hl]; exact z) fun h' tk acc hk hacc => hq acc.toList h' tk ?_ hk
  have q := keys_at (us := acc.toList) (vs := vs) (by rw [Array.length_toList, hacc.1]) fun j v e => by
    obtain ⟨k, x, e1, e2⟩ := hacc.2 j v (by rw [← Array.getElem?_toList]; exact e)
    exact ⟨k, x, e1, e2⟩
  have e1 : (kvs.map fun kv => kV kv.1) = vs.map fun p => kV p.1 := by
    have e2 := congrArg (List.map kV) rel.keys
    simpa [List.map_map, Function.comp_def] using e2
  rw [e1]
  exact q
theorem collects_dt {pins : List (Addr × Obj)} {σ : L2.St} {H : Hp} {s : Shared} {a : Addr} {kvs : List (List Key × V)} (I : Inv X pins σ H s) (h : Rd H a (.dT kvs)) : ∃ bs, IsKeys H kvs bs ∧ Collects X.prog X.w s (.ref a) (fun us => us = bs.map Value.ref) := by
  obtain ⟨z, lo, xs, rel, ob, es, ep, g, xd, dd, hes, _⟩ := dt_rd I.hok h
  refine ⟨xs.map fun x => x.2.1, isKeys_of rel, fun A E Q hh hq => ?_⟩
  have hl : kvs.length = xs.length := Paired.length rel
  have hsz : es.size = xs.length := by
    rw [← Array.length_toList, hes, List.length_map]
  refine PySem.W.kdu_collect (kdl_raw lo xd dd) hh g (by rw [hsz, ← hl]; exact z) fun h' tk acc hk hacc => hq acc.toList h' tk ?_ hk
  refine List.ext_getElem? fun j => ?_
  by_cases hj : j < acc.toList.length
  · obtain ⟨en, e1, e2⟩ := hacc.2 j acc.toList[j] (by rw [← Array.getElem?_toList]; exact List.getElem?_eq_getElem hj)
    rw [← Array.getElem?_toList, hes, List.getElem?_map] at e1
    cases q : xs[j]? with
    | none => rw [q] at e1; cases e1
    | some x =>
      rw [q] at e1
      simp only [Option.map_some, Option.some.injEq] at e1
      rw [List.getElem?_eq_getElem hj, e2, ← e1]
      simp [q, entryOfKey]
  · rw [List.getElem?_eq_none (by omega), List.getElem?_eq_none]
    rw [Array.length_toList, hacc.1] at hj
    simp only [List.length_map]
    omega
theorem rp_keys (G : Hp) : ∀ ks : List Key, RpAll G (ks.map kV) (ks.map kD)
  | [] => .nil
  | .inl i :: r => .cons (.int i) (rp_keys G r)
  | .inr i :: r => .cons (.str i) (rp_keys G r)
open Classical in
/-- the key tuples of a dict are among what is read only -/
theorem more_keys {G H : Hp} (sm : Same G H) {kvs : List (List Key × V)} {ds : List (D × D)} {bs : List Addr} (h : RpT G kvs ds) (ik : IsKeys H kvs bs) : ∃ G1, More G G1 H ∧ RpAll G1 (bs.map V.ref) (ds.map (·.1)) := by
  refine ⟨fun a => match G a with
    | some o => some o
    | none => if a ∈ bs ∧ ∃ vs, H a = some (.tup vs) then H a else none, ⟨fun a o e => by simp only [e], fun a o e => ?_⟩, ?_⟩
  · cases q : G a with
    | some x => simp only [q] at e; exact .inl e
    | none =>
      simp only [q] at e
      split at e
      · rename_i hc
        obtain ⟨vs, hv⟩ := hc.2
        exact .inr ⟨rfl, ⟨vs, by rw [hv] at e; exact (Option.some.inj e).symm⟩, e⟩
      · cases e
  · have key : ∀ (kvs : List (List Key × V)) (ds : List (D × D)) (cs : List Addr), (∀ c ∈ cs, c ∈ bs) → RpT G kvs ds → IsKeys H kvs cs → RpAll (fun a => match G a with
        | some o => some o
        | none => if a ∈ bs ∧ ∃ vs, H a = some (.tup vs) then H a else none) (cs.map V.ref) (ds.map (·.1)) := by
      intro kvs
      induction kvs with
      | nil =>
        intro ds cs _ h2 h3
        cases h2
        cases h3
        exact .nil
      | cons p r ih =>
        intro ds cs hs h2 h3
        cases h2 with
        | cons q1 q2 =>
          cases h3 with
          | @cons _ b _ cs' q3 q4 =>
            refine .cons (.tup (vs := List.map kV _) ?_ (rp_keys _ _)) (ih _ _ (fun c hc => hs c (List.mem_cons_of_mem _ hc)) q2 q4)
            cases z : G b with
            | some o =>
              have z2 := sm b o z
              simp only [z]
              rw [q3] at z2
              exact z2.symm
            | none =>
              simp only [z]
              rw [if_pos ⟨hs b (List.mem_cons_self ..), _, q3⟩]
              exact q3
    exact key kvs ds bs (fun c hc => hc) h ik
theorem More.trans {G1 G2 G3 H : Hp} (a : More G1 G2 H) (b : More G2 G3 H) : More G1 G3 H := by
  refine ⟨a.1.trans b.1, fun c o e => ?_⟩
  rcases b.2 c o e with q | ⟨n, q1, q2⟩
  · exact a.2 c o q
  · refine .inr ⟨?_, q1, q2⟩
    cases z : G1 c with
    | none => rfl
    | some x => rw [a.1 c x z] at n; cases n
theorem More.sub {G G1 H : Hp} (s : Same G H) (m : More G G1 H) : Same G1 H := fun b o e => by
  rcases m.2 b o e with q | ⟨_, _, q⟩
  · exact s b o q
  · exact q
theorem Out.lift {G G1 H H' : Hp} {v : V} {d : D} (m : More G G1 H) (o : Out G1 H H' v (d, true)) : Out G H H' v (d, true) := by
  cases o with
  | new hp c => exact .keys m hp c
  | keys m2 hp c => exact .keys (m.trans m2) hp c
/-- a dict's keys stand for its keys: the tuples must be among those that are read only -/
theorem call_pSorted (hc : X.calm = true) (hu : X.A.units + 64 < cLine) : CallR X (.builtin "sorted") (rN pSorted) := by
  intro pins s σ H xs us Q I r h
  obtain ⟨G, ds, res, sm, ops, hf, hq⟩ := h
  unfold pSorted at hf
  split at hf
  · rename_i ys
    split at hf
    · rename_i ok
      cases hf
      cases ops with
      | cons o1 ops =>
        cases ops
        obtain ⟨a, vs, rfl, ra, ha⟩ := op1_list sm o1
        obtain ⟨u, rfl, hv⟩ := vals1 r
        cases hv
        obtain ⟨z, its, n, rv, e, g⟩ := lstR I ra
        exact sorted_do hc hu I sm (collects_list ⟨_, g, rfl, n, rfl⟩ (by omega)) (fun us hp => by rw [hp]; exact rv) ha z ok hq
    · cases hf
  · rename_i ys
    split at hf
    · rename_i ok
      cases hf
      cases ops with
      | cons o1 ops =>
        cases ops
        obtain ⟨a, vs, rfl, _, ra, ha⟩ := op1_tuple sm o1
        obtain ⟨u, rfl, hv⟩ := vals1 r
        cases hv
        obtain ⟨its, rv, ti, z⟩ := I.tuple (sqT (K := X.K) ra)
        have e := rv.length
        exact sorted_do hc hu I sm (collects_tuple ti (by omega)) (fun us hp => by rw [hp]; exact rv) ha z ok hq
    · cases hf
  · rename_i kvs
    split at hf
    · rename_i ok
      cases hf
      cases ops with
      | cons o1 ops =>
        cases ops
        obtain ⟨a, rfl, q⟩ := op1_dict sm o1
        obtain ⟨u, rfl, hv⟩ := vals1 r
        cases hv
        rcases q with ⟨ks, rk, hk⟩ | ⟨ks, rt, hk⟩
        · have z := (dk_rd I.hok rk.rd).1
          exact sorted_do hc hu I sm (collects_dk I rk.rd) (fun us hp => hp) hk.keys (by rw [List.length_map]; exact z) ok hq
        · have z := (dt_rd I.hok rt.rd).1
          obtain ⟨bs, ik, col⟩ := collects_dt I rt.rd
          obtain ⟨G1, m, rp⟩ := more_keys sm hk ik
          refine sorted_do hc hu I (m.sub sm) col (fun us hp => by rw [hp]; exact vals_refs bs) rp ?_ ok fun v H' o => hq v H' (o.lift m)
          have e1 := rp.length
          have e2 := hk.length
          rw [List.length_map] at e1 ⊢
          rw [e1, List.length_map, ← e2]
          exact z
    · cases hf
  · cases hf
end
end G6

namespace G6
open PySem PySem.Spec L2
section
variable {X : Cx}
theorem op1s_one {G H : Hp} {vs : List V} {d : D} (h : Op1s G H vs [d]) : ∃ v, vs = [v] ∧ Op1 G H v d := by
  cases h with
  | cons o1 r => cases r; exact ⟨_, rfl, o1⟩
theorem op1s_two {G H : Hp} {vs : List V} {d e : D} (h : Op1s G H vs [d, e]) : ∃ v w, vs = [v, w] ∧ Op1 G H v d ∧ Op1 G H w e := by
  cases h with
  | cons o1 r =>
    cases r with
    | cons o2 r => cases r; exact ⟨_, _, rfl, o1, o2⟩
theorem call_pLen : CallR X (.builtin "len") (rN pLen) := by
  intro pins s σ H xs us Q I r h
  obtain ⟨G, ds, res, sm, ops, hf, hq⟩ := h
  unfold pLen at hf
  split at hf
  · cases hf
    obtain ⟨v, rfl, o1⟩ := op1s_one ops
    obtain ⟨a, vs, rfl, ra, ha⟩ := op1_list sm o1
    refine call_len_seq pins s σ H _ us Q I r ⟨a, vs, rfl, .inl (sqL ra), ?_⟩
    rw [ha.length]
    exact hq _ _ (.old (.int _))
  · cases hf
    obtain ⟨v, rfl, o1⟩ := op1s_one ops
    obtain ⟨a, vs, rfl, _, ra, ha⟩ := op1_tuple sm o1
    refine call_len_seq pins s σ H _ us Q I r ⟨a, vs, rfl, .inr (sqT ra), ?_⟩
    rw [ha.length]
    exact hq _ _ (.old (.int _))
  · cases hf
    obtain ⟨v, rfl, o1⟩ := op1s_one ops
    obtain ⟨a, rfl, q⟩ := op1_dict sm o1
    obtain ⟨u, rfl, hv⟩ := vals1 r
    cases hv
    rcases q with ⟨ks, rk, hk⟩ | ⟨ks, rt, hk⟩
    · refine d_len I rk.rd fun t s' I' => ⟨.int ks.length, H, I', ⟨t, rfl⟩, ?_⟩
      rw [hk.length]
      exact hq _ _ (.old (.int _))
    · obtain ⟨z, hd, ys, rel, dd⟩ := dt_rd I.hok rt.rd
      have hl : ks.length = ys.length := Paired.length rel
      refine call_len_dictH (knd := tupleKind (mixKind X.prog X.w)) hd dd (by have := line63; omega) ?_
      refine ⟨.int ks.length, H, I.tok _, ⟨_, by rw [hl]⟩, ?_⟩
      rw [hk.length]
      exact hq _ _ (.old (.int _))
  · split at hf
    · rename_i hl
      cases hf
      obtain ⟨v, rfl, o1⟩ := op1s_one ops
      exact call_len_str pins s σ H _ us Q I r ⟨_, by rw [op1_str o1], hl, hq _ _ (.old (.int _))⟩
    · cases hf
  · cases hf
theorem call_pAbs : CallR X (.builtin "abs") (rN pAbs) := by
  intro pins s σ H xs us Q I r h
  obtain ⟨G, ds, res, sm, ops, hf, hq⟩ := h
  unfold pAbs at hf
  split at hf
  · cases hf
    obtain ⟨v, rfl, o1⟩ := op1s_one ops
    exact call_abs pins s σ H _ us Q I r ⟨_, by rw [op1_int o1], hq _ _ (.old (.int _))⟩
  · cases hf
theorem ints_of : ∀ {ds : List D} {ns : List Int}, intsOf ds = some ns → ds = ns.map PyData.int
  | [], _, h => by cases h; rfl
  | .int i :: r, ns, h => by
    simp only [intsOf, Option.map_eq_some_iff] at h
    obtain ⟨ms, h1, rfl⟩ := h
    rw [ints_of h1]
    rfl
  | .none :: _, _, h => by simp [intsOf] at h
  | .bool _ :: _, _, h => by simp [intsOf] at h
  | .str _ :: _, _, h => by simp [intsOf] at h
  | .list _ :: _, _, h => by simp [intsOf] at h
  | .tuple _ :: _, _, h => by simp [intsOf] at h
  | .dict _ :: _, _, h => by simp [intsOf] at h
theorem rp_ints {G : Hp} : ∀ {vs : List V} {ns : List Int}, RpAll G vs (ns.map PyData.int) → vs = ns.map V.int
  | _, [], h => by cases h; rfl
  | _, n :: ns, h => by
    cases h with
    | cons h1 h2 =>
      cases h1
      rw [rp_ints h2]
      rfl
theorem plain_ints : ∀ ns : List Int, PyData.plainAll (ns.map PyData.int) = true
  | [] => by simp [PyData.plainAll]
  | n :: ns => by simp [PyData.plainAll, PyData.plain, plain_ints ns]
theorem alike_ints' (ns : List Int) : PySem.W.AlikeAll (ns.map PyData.int) := by
  refine ⟨fun x hx y hy => ?_, fun x hx => ?_⟩
  · obtain ⟨i, _, rfl⟩ := List.mem_map.mp hx
    obtain ⟨j, _, rfl⟩ := List.mem_map.mp hy
    simp [PySem.W.alike]
  · obtain ⟨i, _, rfl⟩ := List.mem_map.mp hx
    simp
theorem blsOf_of : ∀ {ds : List D} {ns : List Bool}, blsOf ds = some ns → ds = ns.map PyData.bool
  | [], _, h => by cases h; rfl
  | .bool i :: r, ns, h => by
    simp only [blsOf, Option.map_eq_some_iff] at h
    obtain ⟨ms, h1, rfl⟩ := h
    rw [blsOf_of h1]
    rfl
  | .none :: _, _, h => by simp [blsOf] at h
  | .int _ :: _, _, h => by simp [blsOf] at h
  | .str _ :: _, _, h => by simp [blsOf] at h
  | .list _ :: _, _, h => by simp [blsOf] at h
  | .tuple _ :: _, _, h => by simp [blsOf] at h
  | .dict _ :: _, _, h => by simp [blsOf] at h
theorem rp_bls {G : Hp} : ∀ {vs : List V} {ns : List Bool}, RpAll G vs (ns.map PyData.bool) → vs = ns.map V.bl
  | _, [], h => by cases h; rfl
  | _, n :: ns, h => by
    cases h with
    | cons h1 h2 =>
      cases h1
      rw [rp_bls h2]
      rfl
theorem foldl_max_mem : ∀ (ns : List Int) (n : Int), ns.foldl max n ∈ n :: ns ∧ ∀ y ∈ n :: ns, y ≤ ns.foldl max n
  | [], n => by simp
  | m :: ns, n => by
    obtain ⟨h1, h2⟩ := foldl_max_mem ns (max n m)
    simp only [List.foldl_cons]
    refine ⟨?_, fun y hy => ?_⟩
    · rcases List.mem_cons.mp h1 with e | e
      · rw [e]
        rcases Int.le_total n m with q | q
        · rw [Int.max_eq_right q]; simp
        · rw [Int.max_eq_left q]; simp
      · exact List.mem_cons_of_mem _ (List.mem_cons_of_mem _ e)
    · have h0 := h2 (max n m) (List.mem_cons_self ..)
      rcases List.mem_cons.mp hy with rfl | hy
      · omega
      · rcases List.mem_cons.mp hy with rfl | hy
        · omega
        · exact h2 y (List.mem_cons_of_mem _ hy)
theorem foldl_min_mem : ∀ (ns : List Int) (n : Int), ns.foldl min n ∈ n :: ns ∧ ∀ y ∈ n :: ns, ns.foldl min n ≤ y
  | [], n => by simp
  | m :: ns, n => by
    obtain ⟨h1, h2⟩ := foldl_min_mem ns (min n m)
    simp only [List.foldl_cons]
    refine ⟨?_, fun y hy => ?_⟩
    · rcases List.mem_cons.mp h1 with e | e
      · rw [e]
        rcases Int.le_total n m with q | q
        · rw [Int.min_eq_left q]; simp
        · rw [Int.min_eq_right q]; simp
      · exact List.mem_cons_of_mem _ (List.mem_cons_of_mem _ e)
    · have h0 := h2 (min n m) (List.mem_cons_self ..)
      rcases List.mem_cons.mp hy with rfl | hy
      · omega
      · rcases List.mem_cons.mp hy with rfl | hy
        · omega
        · exact h2 y (List.mem_cons_of_mem _ hy)
theorem tup_ints {pins : List (Addr × Obj)} {σ : L2.St} {H : Hp} {s : Shared} {a : Addr} {n : Int} {ns : List Int} (I : Inv X pins σ H s) (h : H a = some (.tup ((n :: ns).map V.int))) :
    ∃ its : Array Value, s.heap.IsTuple a its ∧ (∃ as, ReadsAll s.heap its.toList (PyData.int n :: ns.map PyData.int) as) ∧ ∀ (i : Nat) (v : Value), its[i]? = some v → ∃ k t, v = .int k t := by
  obtain ⟨its, rv, ti, z⟩ := I.tuple (sqT (K := X.K) h)
  have rp : ∀ ms : List Int, RpAll H (ms.map V.int) (ms.map PyData.int) := fun ms => by
    induction ms with
    | nil => exact .nil
    | cons m r ih => exact .cons (.int m) ih
  obtain ⟨as, ra⟩ := readsAll_of I (rp (n :: ns)) (plain_ints _) rv
  refine ⟨its.toArray, ti, ⟨as, ra⟩, fun i v hv => ?_⟩
  have hv2 : its[i]? = some v := by simpa using hv
  have q := rv.ints
  have aux : ∀ {us : List Value} {ms : List Int}, PyProof.Rows.IntsAre us ms → ∀ (i : Nat) (v : Value), us[i]? = some v → ∃ k t, v = .int k t := by
    intro us ms hi
    induction hi with
    | nil => intro i v e; simp at e
    | cons k t _ ih =>
      intro i v e
      cases i with
      | zero => simp at e; exact ⟨_, _, e.symm⟩
      | succ j => exact ih j v (by simpa using e)
  exact aux q i v hv2
theorem call_pMax1 (hc : X.calm = true) (hu : X.A.units + 64 < cLine) : CallR X (.builtin "max") (rN pMax1) := by
  intro pins s σ H xs us Q I r h
  obtain ⟨G, ds, res, sm, ops, hf, hq⟩ := h
  unfold pMax1 at hf
  split at hf
  · split at hf
    · rename_i n ns he
      cases hf
      obtain ⟨v, rfl, o1⟩ := op1s_one ops
      rw [ints_of he] at o1
      obtain ⟨a, vs, rfl, ra, ha⟩ := op1_list sm o1
      rw [rp_ints ha] at ra
      refine cr_max hc pins s σ H _ us Q I r ⟨a, n :: ns, rfl, sqL ra, by simp, fun m h1 h2 => ?_⟩
      obtain ⟨q1, q2⟩ := foldl_max_mem ns n
      have e : m = ns.foldl max n := Int.le_antisymm (q2 m h1) (h2 _ q1)
      rw [e]
      exact hq _ _ (.old (.int _))
    · cases hf
  · split at hf
    · rename_i n ns he
      cases hf
      obtain ⟨v, rfl, o1⟩ := op1s_one ops
      rw [ints_of he] at o1
      obtain ⟨a, vs, rfl, _, ra, ha⟩ := op1_tuple sm o1
      rw [rp_ints ha] at ra
      obtain ⟨u, rfl, hv⟩ := vals1 r
      cases hv
      obtain ⟨its, ti, ⟨as, rd⟩, hint⟩ := tup_ints I ra
      refine PySem.W.max_tuple_data (I.ok.hd hc) ti rd (alike_ints' (n :: ns)) (by have e := PySem.W.depth_ints (n :: ns); simp only [List.map_cons] at e; rw [e]; omega) fun i v h' tk bs hi hr hk => ?_
      obtain ⟨k, t, rfl⟩ := hint i v hi
      rw [PySem.W.maxD_ints] at hr
      cases hr
      exact ⟨.int _, H, I.kept hk, ⟨t, rfl⟩, hq _ _ (.old (.int _))⟩
    · cases hf
  · cases hf
theorem call_pMin1 (hc : X.calm = true) (hu : X.A.units + 64 < cLine) : CallR X (.builtin "min") (rN pMin1) := by
  intro pins s σ H xs us Q I r h
  obtain ⟨G, ds, res, sm, ops, hf, hq⟩ := h
  unfold pMin1 at hf
  split at hf
  · split at hf
    · rename_i n ns he
      cases hf
      obtain ⟨v, rfl, o1⟩ := op1s_one ops
      rw [ints_of he] at o1
      obtain ⟨a, vs, rfl, ra, ha⟩ := op1_list sm o1
      rw [rp_ints ha] at ra
      refine cr_min hc pins s σ H _ us Q I r ⟨a, n :: ns, rfl, sqL ra, by simp, fun m h1 h2 => ?_⟩
      obtain ⟨q1, q2⟩ := foldl_min_mem ns n
      have e : m = ns.foldl min n := Int.le_antisymm (h2 _ q1) (q2 m h1)
      rw [e]
      exact hq _ _ (.old (.int _))
    · cases hf
  · split at hf
    · rename_i n ns he
      cases hf
      obtain ⟨v, rfl, o1⟩ := op1s_one ops
      rw [ints_of he] at o1
      obtain ⟨a, vs, rfl, _, ra, ha⟩ := op1_tuple sm o1
      rw [rp_ints ha] at ra
      obtain ⟨u, rfl, hv⟩ := vals1 r
      cases hv
      obtain ⟨its, ti, ⟨as, rd⟩, hint⟩ := tup_ints I ra
      refine PySem.W.min_tuple_data (I.ok.hd hc) ti rd (alike_ints' (n :: ns)) (by have e := PySem.W.depth_ints (n :: ns); simp only [List.map_cons] at e; rw [e]; omega) fun i v h' tk bs hi hr hk => ?_
      obtain ⟨k, t, rfl⟩ := hint i v hi
      rw [PySem.W.minD_ints] at hr
      cases hr
      exact ⟨.int _, H, I.kept hk, ⟨t, rfl⟩, hq _ _ (.old (.int _))⟩
    · cases hf
  · cases hf
theorem call_pSum (hc : X.calm = true) : CallR X (.builtin "sum") (rN pSum) := by
  intro pins s σ H xs us Q I r h
  obtain ⟨G, ds, res, sm, ops, hf, hq⟩ := h
  unfold pSum at hf
  split at hf
  · obtain ⟨ns, he, rfl⟩ := Option.map_eq_some_iff.mp hf
    obtain ⟨v, rfl, o1⟩ := op1s_one ops
    rw [ints_of he] at o1
    obtain ⟨a, vs, rfl, ra, ha⟩ := op1_list sm o1
    rw [rp_ints ha] at ra
    exact cr_sum hc pins s σ H _ us Q I r ⟨a, ns, rfl, sqL ra, hq _ _ (.old (.int _))⟩
  · cases hf
theorem call_pAll (hc : X.calm = true) : CallR X (.builtin "all") (rN pAll) := by
  intro pins s σ H xs us Q I r h
  obtain ⟨G, ds, res, sm, ops, hf, hq⟩ := h
  unfold pAll at hf
  split at hf
  · obtain ⟨ns, he, rfl⟩ := Option.map_eq_some_iff.mp hf
    obtain ⟨v, rfl, o1⟩ := op1s_one ops
    rw [blsOf_of he] at o1
    obtain ⟨a, vs, rfl, ra, ha⟩ := op1_list sm o1
    rw [rp_bls ha] at ra
    exact cr_all hc pins s σ H _ us Q I r ⟨a, ns, rfl, sqL ra, hq _ _ (.old (.bl _))⟩
  · cases hf
theorem call_pAny (hc : X.calm = true) : CallR X (.builtin "any") (rN pAny) := by
  intro pins s σ H xs us Q I r h
  obtain ⟨G, ds, res, sm, ops, hf, hq⟩ := h
  unfold pAny at hf
  split at hf
  · obtain ⟨ns, he, rfl⟩ := Option.map_eq_some_iff.mp hf
    obtain ⟨v, rfl, o1⟩ := op1s_one ops
    rw [blsOf_of he] at o1
    obtain ⟨a, vs, rfl, ra, ha⟩ := op1_list sm o1
    rw [rp_bls ha] at ra
    exact cr_any hc pins s σ H _ us Q I r ⟨a, ns, rfl, sqL ra, hq _ _ (.old (.bl _))⟩
  · cases hf
theorem call_pInt : CallR X (.type "int") (rN pInt) := by
  intro pins s σ H xs us Q I r h
  obtain ⟨G, ds, res, sm, ops, hf, hq⟩ := h
  unfold pInt at hf
  split at hf
  · cases hf
    obtain ⟨v, rfl, o1⟩ := op1s_one ops
    exact call_int1 pins s σ H _ us Q I r (.inl ⟨_, by rw [op1_int o1], hq _ _ (.old (.int _))⟩)
  · cases hf
    obtain ⟨v, rfl, o1⟩ := op1s_one ops
    exact call_int1 pins s σ H _ us Q I r (.inr ⟨_, by rw [op1_bool o1], hq _ _ (.old (.int _))⟩)
  · cases hf
theorem list_dk {pins : List (Addr × Obj)} {σ : L2.St} {H : Hp} {s : Shared} {a : Addr} {kvs : List (Key × V)} {Q : VK} (hc : X.calm = true) (I : Inv X pins σ H s) (h : Rd H a (.dK kvs)) (q : ∀ l, H l = none → Q (.ref l) (upd H l (.lst (kvs.map fun kv => kV kv.1)))) :
    wpAny (model X.prog X.w) X.A (call (.type "list") [.ref a]) (EP X pins σ Q) X.xe s := by
  obtain ⟨z, lo, vs, rel, dd⟩ := dk_rd I.hok h
  obtain ⟨ep, hat⟩ := dd.dictAt
  have hl : kvs.length = vs.length := rel.length
  refine PySem.W.kdl_call (PySem.W.kdl_dict (knd := mixKind X.prog X.w) (kvs := vs) (ep := ep) lo) (I.ok.hd hc) hat (by rw [← hl]; exact z) fun h' tk acc c hk hS hacc => ?_
  have kv := keys_at (us := acc.toList) (vs := vs) (by rw [Array.length_toList, hacc.1]) fun j v e => by
    obtain ⟨k, x, e1, e2⟩ := hacc.2 j v (by rw [← Array.getElem?_toList]; exact e)
    exact ⟨k, x, e1, e2⟩
  have e1 : (kvs.map fun kv => kV kv.1) = vs.map fun p => kV p.1 := by
    have e2 := congrArg (List.map kV) rel.keys
    simpa [List.map_map, Function.comp_def] using e2
  refine ⟨V.ref s.heap.objs.size, _, I.laid (o := .lst (kvs.map fun kv => kV kv.1)) (t' := tk) hk (Nat.le_refl _) ⟨by rw [List.length_map]; exact z, acc.toList, c, by rw [e1]; exact kv, by rw [Array.toArray_toList]; exact hS⟩, rfl, q _ I.fresh⟩
theorem call_pList (hc : X.calm = true) : CallR X (.type "list") (rN pList) := by
  intro pins s σ H xs us Q I r h
  obtain ⟨G, ds, res, sm, ops, hf, hq⟩ := h
  unfold pList at hf
  split at hf
  · cases hf
    obtain ⟨v, rfl, o1⟩ := op1s_one ops
    obtain ⟨a, vs, rfl, ra, ha⟩ := op1_list sm o1
    exact call_list_of pins s σ H _ us Q I r ⟨a, vs, rfl, .inl (sqL ra), fun l hl => hq _ _ (.new hl (.lst ha))⟩
  · cases hf
    obtain ⟨v, rfl, o1⟩ := op1s_one ops
    obtain ⟨a, vs, rfl, _, ra, ha⟩ := op1_tuple sm o1
    exact call_list_of pins s σ H _ us Q I r ⟨a, vs, rfl, .inr (sqT ra), fun l hl => hq _ _ (.new hl (.lst ha))⟩
  · cases hf
    obtain ⟨v, rfl, o1⟩ := op1s_one ops
    obtain ⟨a, rfl, q⟩ := op1_dict sm o1
    rcases q with ⟨ks, rk, hk⟩ | ⟨ks, rt, hk⟩
    · obtain ⟨u, rfl, hv⟩ := vals1 r
      cases hv
      exact list_dk hc I rk.rd fun l hl => hq _ _ (.new hl (.lst hk.keys))
    · refine call_list_dT hc pins s σ H _ us Q I r ⟨a, ks, rfl, rt.rd, fun l bs hl ik => ?_⟩
      obtain ⟨G1, m, rp⟩ := more_keys sm hk ik
      exact hq _ _ (.keys m hl (.lst rp))
  · cases hf
theorem call_pTuple (hc : X.calm = true) : CallR X (.type "tuple") (rN pTuple) := by
  intro pins s σ H xs us Q I r h
  obtain ⟨G, ds, res, sm, ops, hf, hq⟩ := h
  unfold pTuple at hf
  split at hf
  · cases hf
    obtain ⟨v, rfl, o1⟩ := op1s_one ops
    obtain ⟨a, vs, rfl, ra, ha⟩ := op1_list sm o1
    exact call_tuple_of pins s σ H _ us Q I r ⟨a, vs, rfl, .inl ⟨sqL ra, fun l hl => hq _ _ (.tup hl ha)⟩⟩
  · cases hf
    obtain ⟨v, rfl, o1⟩ := op1s_one ops
    obtain ⟨a, vs, rfl, ga, ra, ha⟩ := op1_tuple sm o1
    exact call_tuple_of pins s σ H _ us Q I r ⟨a, vs, rfl, .inr ⟨sqT ra, hq _ _ (.old (.tup ga ha))⟩⟩
  · split at hf
    · rename_i z hz
      cases hf
      obtain ⟨v, rfl, o1⟩ := op1s_one ops
      have e := op1_str o1
      subst e
      obtain ⟨u, rfl, t, rfl⟩ := vals1 r
      have hsz : z.cps.size ≤ 1000 := hz
      refine call_tuple_str (I.ok.hd hc) z t (fun h' tk acc hk hacc => ?_) (Nat.le_trans hsz (by decide))
      have I1 : Inv X pins σ H { s with heap := h', toks := tk } := I.kept hk
      have hp : H h'.objs.size = none := I1.hok.fresh (Nat.le_refl _)
      have vs1 : Vals (z.cps.toList.map fun c => V.str ⟨#[c]⟩) acc.toList := by
        refine vals_of_at (by rw [List.length_map, Array.length_toList, Array.length_toList, hacc.1]) fun j x w h1 h2 => ?_
        obtain ⟨c, t, e1, e2⟩ := hacc.2 j w (by rw [← Array.getElem?_toList]; exact h2)
        rw [List.getElem?_map, Array.getElem?_toList, e1] at h1
        cases h1
        exact ⟨t, e2⟩
      have rp1 : ∀ cs : List Nat, RpAll G (cs.map fun c => V.str ⟨#[c]⟩) (cs.map fun c => PyData.str ⟨#[c]⟩) := fun cs => by
        induction cs with
        | nil => exact .nil
        | cons c r ih => exact .cons (.str _) ih
      refine ⟨V.ref h'.objs.size, upd H h'.objs.size (.tup (z.cps.toList.map fun c => V.str ⟨#[c]⟩)), I1.laid (t' := tk) (fun b o e => Heap.get?_push_of_some _ e) (Nat.le_refl _) ⟨?_, acc.toList, vs1, _, Heap.get?_push_size _ rfl, rfl, 0, by simp⟩, rfl, hq _ _ (.tup hp (rp1 _))⟩
      rw [List.length_map, Array.length_toList]
      exact Nat.le_trans hsz (by decide)
    · cases hf
  · cases hf
end
end G6

namespace G6
open PySem PySem.Spec L2
/-! ### readings of the combinators, over the layer's readings -/
section
variable {W : Wx}
theorem l_not {t : T} (σ : L2.St) (H : Hp) (Q : Bool → Hp → Prop) (h : tTe W (tNot t) σ H Q) : L2.tNot (tTe W t) σ H Q := by
  obtain ⟨g, env, G, er, h⟩ := h
  refine ⟨g, env, G, er, ?_⟩
  unfold tNot at h
  exact h.split.mono fun b e G' H' x er' h => h G' H' (.refl G') er'
theorem l_and {t u : T} (σ : L2.St) (H : Hp) (Q : Bool → Hp → Prop) (h : tTe W (tAnd t u) σ H Q) : L2.tAnd (tTe W t) (tTe W u) σ H Q := by
  obtain ⟨g, env, G, er, h⟩ := h
  refine ⟨g, env, G, er, ?_⟩
  unfold tAnd at h
  refine h.split.mono fun b e G' H' x er' h => ?_
  cases b with
  | true =>
    simp only [if_true] at h ⊢
    exact ⟨g, e, G', er', h⟩
  | false =>
    simp only [Bool.false_eq_true, if_false] at h ⊢
    exact h G' H' (.refl G') er'
theorem l_or {t u : T} (σ : L2.St) (H : Hp) (Q : Bool → Hp → Prop) (h : tTe W (tOr t u) σ H Q) : L2.tOr (tTe W t) (tTe W u) σ H Q := by
  obtain ⟨g, env, G, er, h⟩ := h
  refine ⟨g, env, G, er, ?_⟩
  unfold tOr at h
  refine h.split.mono fun b e G' H' x er' h => ?_
  cases b with
  | false =>
    simp only [Bool.false_eq_true, if_false] at h ⊢
    exact ⟨g, e, G', er', h⟩
  | true =>
    simp only [if_true] at h ⊢
    exact h G' H' (.refl G') er'
theorem tru_of {K : PySem.W.Frag} {G H : Hp} {v : V} {d : D} (sm : Same G H) (h : Op1 G H v d) (ok : truOk d = true) : TruV K v H d.truthy := by
  cases d with
  | none => rw [op1_none h]; rfl
  | bool b => rw [op1_bool h]; rfl
  | int i => rw [op1_int h]; rfl
  | str s =>
    rw [op1_str h]
    exact ⟨by simpa [truOk] using ok, rfl⟩
  | list xs =>
    obtain ⟨a, vs, rfl, ra, ha⟩ := op1_list sm h
    refine .inl ⟨vs, sqL ra, ?_⟩
    have e := ha.length
    simp only [PyData.truthy]
    cases vs <;> cases xs <;> simp_all
  | tuple xs =>
    obtain ⟨a, vs, rfl, _, ra, ha⟩ := op1_tuple sm h
    refine .inr (.inl ⟨vs, sqT ra, ?_⟩)
    have e := ha.length
    simp only [PyData.truthy]
    cases vs <;> cases xs <;> simp_all
  | dict kvs => simp [truOk] at ok
theorem l_val {K : PySem.W.Frag} {p : Pk} (σ : L2.St) (H : Hp) (Q : Bool → Hp → Prop) (h : tTe W (tVal p) σ H Q) : tPk W p σ H fun x H' => ∃ k, TruV K x H' k ∧ Q k H' := by
  obtain ⟨g, env, G, er, h⟩ := h
  refine ⟨g, env, G, er, ?_⟩
  unfold tVal at h
  refine h.split.mono fun t e G' H' x er' h v hv => ?_
  cases q : tget e t with
  | none => simp only [q] at h; exact h.elim
  | some d =>
    simp only [q] at h
    split at h
    · rename_i ok
      exact ⟨_, tru_of er'.gH (op1_of er' hv q) ok, h G' H' (.refl G') er'⟩
    · exact h.elim
theorem l_xnot {K : PySem.W.Frag} {p : Pk} (σ : L2.St) (H : Hp) (Q : VK) (h : tX W (xNot p) σ H Q) : tNotT K (tPk W p) σ H Q := by
  obtain ⟨g, env, G, er, h⟩ := h
  refine ⟨g, env, G, er, ?_⟩
  unfold xNot at h
  refine h.split.mono fun t e G' H' x er' h v hv => ?_
  cases q : tget e t with
  | none => simp only [q] at h; exact h.elim
  | some d =>
    simp only [q] at h
    split at h
    · rename_i ok
      exact ⟨_, tru_of er'.gH (op1_of er' hv q) ok, h G' H' (.refl G') er' _ (.inl ⟨rfl, .bl _⟩)⟩
    · exact h.elim
theorem l_cmp {m : X} (σ : L2.St) (H : Hp) (Q : Bool → Hp → Prop) (h : tTe W (tCmp m) σ H Q) : tX W m σ H fun x H' => ∃ k, x = .bl k ∧ Q k H' := by
  obtain ⟨g, env, G, er, h⟩ := h
  refine ⟨g, env, G, er, ?_⟩
  unfold tCmp at h
  refine h.split.mono fun r e G' H' x er' h v hv => ?_
  obtain ⟨d, fr⟩ := r
  cases d with
  | bool b =>
    refine ⟨b, ?_, h G' H' (.refl G') er'⟩
    rcases hv with ⟨_, rp⟩ | ⟨_, a, _, ⟨_, o, _, c⟩, _⟩
    · cases rp; rfl
    · cases c
  | _ => exact h.elim
theorem l_if {t : T} {a b : X} (σ : L2.St) (H : Hp) (Q : VK) (h : tX W (xIf t a b) σ H Q) : tIf (tTe W t) (tX W a) (tX W b) σ H Q := by
  obtain ⟨g, env, G, er, h⟩ := h
  refine ⟨g, env, G, er, ?_⟩
  unfold xIf at h
  refine h.split.mono fun c e G' H' x er' h => ?_
  cases c with
  | true => simp only [if_true] at h ⊢; exact ⟨g, e, G', er', h⟩
  | false => simp only [Bool.false_eq_true, if_false] at h ⊢; exact ⟨g, e, G', er', h⟩
theorem vr_bool {g : Gh} {e : En} {G : Hp} {σ : L2.St} {H : Hp} {fr : Bool} {b : Bool} {v : V} (hv : Vr g e G σ H (.bool b, fr) v) : v = .bl b := by
  rcases hv with ⟨_, rp⟩ | ⟨_, a, _, ⟨_, o, _, c⟩, _⟩
  · cases rp; rfl
  · cases c
theorem l_xand {a b : X} (σ : L2.St) (H : Hp) (Q : VK) (h : tX W (xAnd a b) σ H Q) : tAndV (tX W a) (tX W b) σ H Q := by
  obtain ⟨g, env, G, er, h⟩ := h
  refine ⟨g, env, G, er, ?_⟩
  unfold xAnd at h
  refine h.split.mono fun r e G' H' x er' h v hv => ?_
  obtain ⟨d, fr⟩ := r
  cases d with
  | bool c =>
    refine ⟨c, vr_bool hv, ?_⟩
    cases c with
    | true => simp only [if_true]; exact ⟨g, e, G', er', h⟩
    | false => simp only [Bool.false_eq_true, if_false]; exact h G' H' (.refl G') er' _ (.inl ⟨rfl, .bl _⟩)
  | _ => exact h.elim
theorem l_xor {a b : X} (σ : L2.St) (H : Hp) (Q : VK) (h : tX W (xOr a b) σ H Q) : tOrV (tX W a) (tX W b) σ H Q := by
  obtain ⟨g, env, G, er, h⟩ := h
  refine ⟨g, env, G, er, ?_⟩
  unfold xOr at h
  refine h.split.mono fun r e G' H' x er' h v hv => ?_
  obtain ⟨d, fr⟩ := r
  cases d with
  | bool c =>
    refine ⟨c, vr_bool hv, ?_⟩
    cases c with
    | false => simp only [Bool.false_eq_true, if_false]; exact ⟨g, e, G', er', h⟩
    | true => simp only [if_true]; exact h G' H' (.refl G') er' _ (.inl ⟨rfl, .bl _⟩)
  | _ => exact h.elim
theorem l_var {i : Nat} (σ : L2.St) (H : Hp) (Q : VK) (h : tX W (xVar i) σ H Q) : tVar i σ H Q := by
  obtain ⟨g, env, G, er, h⟩ := h
  simp only [xVar] at h
  cases e : env[i]? with
  | none => simp only [e] at h; exact h.elim
  | some s =>
    cases s with
    | none => simp only [e] at h; exact h.elim
    | some s =>
      simp only [e] at h
      obtain ⟨b, d⟩ := s
      obtain ⟨v, G', h1, x, er', rp⟩ := er.coldSlot e
      exact ⟨v, h1, h G' H x er' v (.inl ⟨rfl, rp⟩)⟩
theorem l_lit {d : D} {v : V} (rp : ∀ G, Rp G v d) (σ : L2.St) (H : Hp) (Q : VK) (h : tX W (xLit d) σ H Q) : tC v σ H Q := by
  obtain ⟨g, env, G, er, h⟩ := h
  exact h G H (.refl G) er v (.inl ⟨rfl, rp G⟩)
theorem l_tup {ms : List X} (hz : ms.length ≤ 1000) (σ : L2.St) (H : Hp) (Q : VK) (h : tX W (xTup ms) σ H Q) : tTup (tXs W ms) σ H Q := by
  obtain ⟨g, env, G, er, h⟩ := h
  refine ⟨g, env, G, er, ?_⟩
  unfold xTup at h
  have len : ∀ (ms : List X) (e : En) (ds : List D) (e2 : En), evXs ms e = .ok ds e2 → ds.length = ms.length := by
    intro ms
    induction ms with
    | nil => intro e ds e2 h; cases h; rfl
    | cons m r ih =>
      intro e ds e2 h
      simp only [evXs] at h
      cases q : m e with
      | ok a e1 =>
        rw [q] at h
        simp only [Re.bind_ok] at h
        cases q2 : evXs r e1 with
        | ok b e3 =>
          rw [q2] at h
          simp only [Re.bind_ok] at h
          cases h
          rw [List.length_cons, List.length_cons, ih _ _ _ q2]
        | exc c e3 => rw [q2] at h; cases h
        | bad => rw [q2] at h; cases h
      | exc c e1 => rw [q] at h; cases h
      | bad => rw [q] at h; cases h
  cases q : evXs ms env with
  | bad => rw [q] at h; exact h
  | exc c e => rw [q] at h; exact h
  | ok ds e =>
    rw [q] at h
    intro G' H' x er' vs hvs
    have hl : vs.length ≤ sizeLine := by
      rw [hvs.length, len _ _ _ _ q]
      exact Nat.le_trans hz (by decide)
    refine ⟨hl, fun p hp => ?_⟩
    obtain ⟨G2, x2, er2, vr⟩ := er'.out (.tup hp hvs)
    exact h G2 _ (x.trans x2) er2 _ vr
theorem l_lst {ms : List X} (hz : ms.length ≤ 1000) (σ : L2.St) (H : Hp) (Q : VK) (h : tX W (xLst ms) σ H Q) : tLst (tXs W ms) σ H Q := by
  obtain ⟨g, env, G, er, h⟩ := h
  refine ⟨g, env, G, er, ?_⟩
  unfold xLst at h
  have len : ∀ (ms : List X) (e : En) (ds : List D) (e2 : En), evXs ms e = .ok ds e2 → ds.length = ms.length := by
    intro ms
    induction ms with
    | nil => intro e ds e2 h; cases h; rfl
    | cons m r ih =>
      intro e ds e2 h
      simp only [evXs] at h
      cases q : m e with
      | ok a e1 =>
        rw [q] at h
        simp only [Re.bind_ok] at h
        cases q2 : evXs r e1 with
        | ok b e3 =>
          rw [q2] at h
          simp only [Re.bind_ok] at h
          cases h
          rw [List.length_cons, List.length_cons, ih _ _ _ q2]
        | exc c e3 => rw [q2] at h; cases h
        | bad => rw [q2] at h; cases h
      | exc c e1 => rw [q] at h; cases h
      | bad => rw [q] at h; cases h
  cases q : evXs ms env with
  | bad => rw [q] at h; exact h
  | exc c e => rw [q] at h; exact h
  | ok ds e =>
    rw [q] at h
    intro G' H' x er' vs hvs
    have hl : vs.length ≤ sizeLine := by
      rw [hvs.length, len _ _ _ _ q]
      exact Nat.le_trans hz (by decide)
    refine ⟨hl, fun p hp => ?_⟩
    obtain ⟨G2, x2, er2, vr⟩ := er'.out (.new hp (.lst hvs))
    exact h G2 _ (x.trans x2) er2 _ vr
theorem l_cmp2 {f g : Pr} {a b c : Pk} (σ : L2.St) (H : Hp) (Q : VK) (h : tX W (xCmp2 f g a b c) σ H Q) : tChain (r2 f) (r2 g) (tPk W a) (tPk W b) (tPk W c) σ H Q := by
  obtain ⟨gh, env, G, er, h⟩ := h
  refine ⟨gh, env, G, er, ?_⟩
  unfold xCmp2 at h
  refine h.split.mono fun ta e1 G1 H1 x1 er1 h va hva => ⟨gh, e1, G1, er1, ?_⟩
  refine h.split.mono fun tb e2 G2 H2 x2 er2 h vb hvb => ?_
  have hva := hva.ext x2
  cases qa : tget e2 ta with
  | none => simp only [qa] at h; exact h.elim
  | some da =>
    cases qb : tget e2 tb with
    | none => simp only [qa, qb] at h; exact h.elim
    | some db =>
      simp only [qa, qb] at h
      cases qf : f [da, db] with
      | none => simp only [qf] at h; exact h.elim
      | some r =>
        simp only [qf] at h
        obtain ⟨d, fr⟩ := r
        cases d with
        | bool k =>
          refine ⟨G2, [da, db], _, er2.gH, .cons (op1_of er2 hva qa) (.cons (op1_of er2 hvb qb) .nil), qf, fun v H3 o => ?_⟩
          have ev : v = .bl k ∧ H3 = H2 := by
            cases o with
            | old rp => cases rp; exact ⟨rfl, rfl⟩
            | seen _ rp => cases rp; exact ⟨rfl, rfl⟩
            | new _ c => cases c
            | keys _ _ c => cases c
          obtain ⟨rfl, rfl⟩ := ev
          refine ⟨k, rfl, ?_⟩
          cases k with
          | false =>
            simp only [Bool.false_eq_true, if_false]
            exact h G2 H3 (.refl G2) er2 _ (.inl ⟨rfl, .bl _⟩)
          | true =>
            simp only [if_true]
            refine ⟨gh, e2, G2, er2, h.split.mono fun tc e3 G3 H4 x3 er3 h vc hvc => ?_⟩
            have hvb := hvb.ext x3
            cases qb3 : tget e3 tb with
            | none => simp only [qb3] at h; exact h.elim
            | some db3 =>
              cases qc : tget e3 tc with
              | none => simp only [qb3, qc] at h; exact h.elim
              | some dc =>
                simp only [qb3, qc] at h
                cases qg : g [db3, dc] with
                | none => simp only [qg] at h; exact h.elim
                | some r =>
                  simp only [qg] at h
                  obtain ⟨d, fr⟩ := r
                  cases d with
                  | bool k2 =>
                    refine ⟨G3, [db3, dc], _, er3.gH, .cons (op1_of er3 hvb qb3) (.cons (op1_of er3 hvc qc) .nil), qg, fun v H5 o => ?_⟩
                    have ev : v = .bl k2 ∧ H5 = H4 := by
                      cases o with
                      | old rp => cases rp; exact ⟨rfl, rfl⟩
                      | seen _ rp => cases rp; exact ⟨rfl, rfl⟩
                      | new _ c => cases c
                      | keys _ _ c => cases c
                    obtain ⟨rfl, rfl⟩ := ev
                    exact h G3 H5 (.refl G3) er3 _ (.inl ⟨rfl, .bl _⟩)
                  | _ => exact h.elim
        | _ => exact h.elim
end
end G6

namespace G6
open PySem PySem.Spec L2
/-! ### what a def is promised, and gives -/
/-- the arguments: values that are read only, or objects that are lent -/
inductive ArgsR (G H F : Hp) : List Bool → List V → List D → List Addr → Prop
  | nil : ArgsR G H F [] [] [] []
  | v {io : List Bool} {v : V} {vs : List V} {d : D} {ds : List D} {as : List Addr} : Rp G v d → ArgsR G H F io vs ds as → ArgsR G H F (false :: io) (v :: vs) (d :: ds) as
  | io {io : List Bool} {a : Addr} {vs : List V} {d : D} {ds : List D} {as : List Addr} : Ow G H a d → F a = none → a ∉ as → ArgsR G H F io vs ds as → ArgsR G H F (true :: io) (.ref a :: vs) (d :: ds) (a :: as)
/-- the lent objects behind the call -/
inductive OutsR (G H : Hp) : List Addr → List D → Prop
  | nil : OutsR G H [] []
  | cons {a : Addr} {as : List Addr} {d : D} {ds : List D} : Ow G H a d → OutsR G H as ds → OutsR G H (a :: as) (d :: ds)
def RetR (G H F : Hp) (as : List Addr) (d : D) (fr : Bool) (v : V) : Prop := (fr = false ∧ Rp G v d) ∨ (fr = true ∧ ∃ a, v = .ref a ∧ Ow G H a d ∧ F a = none ∧ a ∉ as)
def Keeps (F G H : Hp) : Prop := Same G H ∧ ∀ a o, F a = some o → H a = some o ∧ G a = none
def spF (mg : Str → Option Value) (io : List Bool) (f : Fn) : Sp := fun vs H Q E => ∃ (F G : Hp) (ds : List D) (as : List Addr), (∀ a ys, F a ≠ some (.tup ys)) ∧ Keeps F G H ∧ ArgsR G H F io vs ds as ∧
  match f ds with
  | .ok d fr outs => ∀ v H' G', Ext G G' → Keeps F G' H' → OutsR G' H' as outs → RetR G' H' F as d fr v → Q v H'
  | .exc c => ∀ H' G' cls, Ext G G' → Keeps F G' H' → mg c = some cls → E cls none H'
  | .bad => False
theorem ArgsR.len {G H F : Hp} : ∀ {io : List Bool} {vs : List V} {ds : List D} {as : List Addr}, ArgsR G H F io vs ds as → vs.length = io.length ∧ ds.length = io.length
  | _, _, _, _, .nil => ⟨rfl, rfl⟩
  | _, _, _, _, .v _ r => by simp [r.len.1, r.len.2]
  | _, _, _, _, .io _ _ _ r => by simp [r.len.1, r.len.2]
theorem spF_len {mg : Str → Option Value} {io : List Bool} {f : Fn} (vs : List V) (H : Hp) (Q : VK) (E : XK) (h : spF mg io f vs H Q E) : vs.length = io.length := by
  obtain ⟨F, G, ds, as, _, _, ar, _⟩ := h
  exact ar.len.1
/-! ### the caller -/
/-- what stands at each argument's place -/
inductive AtRs (σ : L2.St) (g : Gh) (e : En) (G H : Hp) : List At → List V → Prop
  | nil : AtRs σ g e G H [] []
  | v {d : D} {v : V} {ts : List At} {vs : List V} : Rp G v d → AtRs σ g e G H ts vs → AtRs σ g e G H (.v d :: ts) (v :: vs)
  | io {i : Nat} {v : V} {ts : List At} {vs : List V} : σ[i]? = some (some v) → AtRs σ g e G H ts vs → AtRs σ g e G H (.io i :: ts) (v :: vs)
  | tmp {d : D} {a : Addr} : Ow G H a d → g.F a = none → NotSlot e σ a → AtRs σ g e G H [.tmp d] [.ref a]
def tArs (W : Wx) (as : List Ar) : TA := fun σ H Q => ∃ g env G, Er g env G σ H ∧ After W g G σ (evArs as env) fun ts e G' H' => ∀ vs, AtRs σ g e G' H' ts vs → Q vs H'
section
variable {W : Wx}
theorem ars_nil (σ : L2.St) (H : Hp) (Q : List V → Hp → Prop) (h : tArs W [] σ H Q) : tNil σ H Q := by
  obtain ⟨g, env, G, er, h⟩ := h
  exact h G H (.refl G) er [] .nil
theorem ars_v {m : X} {as : List Ar} (σ : L2.St) (H : Hp) (Q : List V → Hp → Prop) (h : tArs W (.v m :: as) σ H Q) : tCons (tX W m) (tArs W as) σ H Q := by
  obtain ⟨g, env, G, er, h⟩ := h
  refine ⟨g, env, G, er, ?_⟩
  have h2 : After W g G σ ((m env).bind fun x e1 => (evArs as e1).bind fun ts e2 => .ok (.v x.1 :: ts) e2) fun ts e G' H' => ∀ vs, AtRs σ g e G' H' ts vs → Q vs H' := h
  refine h2.split.mono fun r e G' H' x er' h v hv => ?_
  obtain ⟨G1, x1, er1, rp⟩ := er'.cold hv
  refine ⟨g, e, G1, er1, (h.ext x1).split.mono fun ts e2 G2 H2 x2 er2 h vs hvs => ?_⟩
  exact h G2 H2 (.refl G2) er2 _ (.v (rp.ext x2) hvs)
theorem ars_io {i : Nat} {as : List Ar} (σ : L2.St) (H : Hp) (Q : List V → Hp → Prop) (h : tArs W (.io i :: as) σ H Q) : tCons (tVar i) (tArs W as) σ H Q := by
  obtain ⟨g, env, G, er, h⟩ := h
  have h2 : After W g G σ (match env[i]? with
    | some (some _) => (evArs as env).bind fun ts e2 => .ok (.io i :: ts) e2
    | _ => .bad) fun ts e G' H' => ∀ vs, AtRs σ g e G' H' ts vs → Q vs H' := h
  cases e : env[i]? with
  | none => simp only [e] at h2; exact h2.elim
  | some s =>
    cases s with
    | none => simp only [e] at h2; exact h2.elim
    | some s =>
      simp only [e] at h2
      obtain ⟨v, h1, _⟩ := er.sl i s.1 s.2 e
      refine ⟨v, h1, g, env, G, er, h2.split.mono fun ts e2 G2 H2 x2 er2 h vs hvs => ?_⟩
      exact h G2 H2 (.refl G2) er2 _ (.io h1 hvs)
theorem ars_tmp {m : X} (σ : L2.St) (H : Hp) (Q : List V → Hp → Prop) (h : tArs W [.tmp m] σ H Q) : tCons (tX W m) tNil σ H Q := by
  obtain ⟨g, env, G, er, h⟩ := h
  refine ⟨g, env, G, er, ?_⟩
  have h2 : After W g G σ ((m env).bind fun x e1 => if x.2 then (evArs [] e1).bind fun ts e2 => .ok (.tmp x.1 :: ts) e2 else .bad) fun ts e G' H' => ∀ vs, AtRs σ g e G' H' ts vs → Q vs H' := h
  refine h2.split.mono fun r e G' H' x er' h v hv => ?_
  rcases hv with ⟨hb, _⟩ | ⟨hb, a, rfl, ow, hf, ns⟩
  · simp only [hb, Bool.false_eq_true, if_false] at h; exact h.elim
  · simp only [hb, if_true] at h
    exact h G' H' (.refl G') er' _ (.tmp ow hf ns)
/-- the objects of the caller's variables, but for those that are lent -/
def lent (ts : List At) : List Nat := ts.filterMap fun t => match t with
  | .io i => some i
  | _ => none
open Classical in
noncomputable def hold (g : Gh) (e : En) (σ : L2.St) (H : Hp) (l : List Nat) : Hp := fun a => if ∃ (i : Nat) (d : D), e[i]? = some (some (true, d)) ∧ σ[i]? = some (some (V.ref a)) ∧ i ∉ l then H a else g.F a
theorem hold_F {g : Gh} {e : En} {σ : L2.St} {G H : Hp} {l : List Nat} (er : Er g e G σ H) {a : Addr} {o : HO} (h : g.F a = some o) : hold g e σ H l a = some o := by
  unfold hold
  split
  · rename_i q
    obtain ⟨i, d, h1, h2, _⟩ := q
    obtain ⟨v, e1, _, e3⟩ := er.sl i true d h1
    obtain ⟨b, rfl, _, z⟩ := e3 rfl
    rw [h2] at e1
    cases e1
    rw [h] at z
    cases z
  · exact h
theorem hold_keeps {g : Gh} {e : En} {σ : L2.St} {G H : Hp} {l : List Nat} (er : Er g e G σ H) : Keeps (hold g e σ H l) G H := by
  refine ⟨er.gH, fun a o h => ?_⟩
  unfold hold at h
  split at h
  · rename_i q
    obtain ⟨i, d, h1, h2, _⟩ := q
    obtain ⟨v, e1, _, e3⟩ := er.sl i true d h1
    obtain ⟨b, rfl, ⟨n, _⟩, z⟩ := e3 rfl
    rw [h2] at e1
    cases e1
    exact ⟨h, n⟩
  · exact er.fH a o h
theorem hold_tup {g : Gh} {e : En} {σ : L2.St} {G H : Hp} {l : List Nat} (er : Er g e G σ H) (a : Addr) (ys : List V) : hold g e σ H l a ≠ some (.tup ys) := fun h => by
  unfold hold at h
  split at h
  · rename_i q
    obtain ⟨i, d, h1, h2, _⟩ := q
    obtain ⟨v, e1, _, e3⟩ := er.sl i true d h1
    obtain ⟨b, rfl, ⟨n, o, ho, c⟩, z⟩ := e3 rfl
    rw [h2] at e1
    cases e1
    rw [ho] at h
    cases h
    cases c
  · exact g.fT a ys h
/-- an object that no variable holds, or one that is lent, is not held back -/
theorem hold_none {g : Gh} {e : En} {σ : L2.St} {G H : Hp} {l : List Nat} {a : Addr} (hF : g.F a = none) (h : ∀ (i : Nat) (d : D), e[i]? = some (some (true, d)) → σ[i]? = some (some (V.ref a)) → i ∈ l) : hold g e σ H l a = none := by
  unfold hold
  split
  · rename_i q
    obtain ⟨i, d, h1, h2, h3⟩ := q
    exact absurd (h i d h1 h2) h3
  · exact hF
theorem hold_slot {g : Gh} {e : En} {σ : L2.St} {G H : Hp} {l : List Nat} {a : Addr} {i : Nat} {d : D} (h1 : e[i]? = some (some (true, d))) (h2 : σ[i]? = some (some (V.ref a))) (h3 : i ∉ l) : hold g e σ H l a = H a := by
  unfold hold
  rw [if_pos ⟨i, d, h1, h2, h3⟩]
/-- the lent objects' addresses -/
inductive LentAt (σ : L2.St) : List At → List Addr → Prop
  | nil : LentAt σ [] []
  | v {d : D} {ts : List At} {as : List Addr} : LentAt σ ts as → LentAt σ (.v d :: ts) as
  | io {i : Nat} {a : Addr} {ts : List At} {as : List Addr} : σ[i]? = some (some (V.ref a)) → LentAt σ ts as → LentAt σ (.io i :: ts) (a :: as)
  | tmp {d : D} {a : Addr} : LentAt σ [.tmp d] [a]
/-- which parameters of a def may be changed -/
inductive IoAs : List Bool → List At → Prop
  | nil : IoAs [] []
  | v {io : List Bool} {d : D} {ts : List At} : IoAs io ts → IoAs (false :: io) (.v d :: ts)
  | io {io : List Bool} {i : Nat} {ts : List At} : IoAs io ts → IoAs (true :: io) (.io i :: ts)
  | tmp {d : D} : IoAs [true] [.tmp d]
theorem args_of {g : Gh} {e : En} {σ : L2.St} {G H : Hp} (er : Er g e G σ H) (l : List Nat) : ∀ {ts : List At} {vs : List V} {io : List Bool} {ds : List D}, AtRs σ g e G H ts vs → IoAs io ts → atVals e ts = some ds → (lent ts).Nodup → (∀ i ∈ lent ts, i ∈ l) → (∀ i ∈ l, ∃ d, e[i]? = some (some (true, d))) →
    ∃ as, LentAt σ ts as ∧ ArgsR G H (hold g e σ H l) io vs ds as ∧ (∀ a ∈ as, (∃ i ∈ lent ts, σ[i]? = some (some (V.ref a))) ∨ NotSlot e σ a)
  | _, _, _, _, .nil, .nil, hd, _, _, _ => by cases hd; exact ⟨[], .nil, .nil, fun _ h => by cases h⟩
  | .v d :: ts, _, _, ds, .v rp r, .v q, hd, nd, hl, ho => by
    simp only [atVals, Option.map_eq_some_iff] at hd
    obtain ⟨ds', h1, rfl⟩ := hd
    obtain ⟨as, l1, a1, s1⟩ := args_of er l r q h1 nd hl ho
    exact ⟨as, .v l1, .v rp a1, s1⟩
  | .io i :: ts, _, _, ds, .io hv r, .io q, hd, nd, hl, ho => by
    simp only [atVals] at hd
    cases z : e[i]? with
    | none => simp only [z] at hd; cases hd
    | some s =>
      cases s with
      | none => simp only [z] at hd; cases hd
      | some s =>
        obtain ⟨b, d⟩ := s
        cases b with
        | false => simp only [z] at hd; cases hd
        | true =>
          simp only [z, Option.map_eq_some_iff] at hd
          obtain ⟨ds', h1, rfl⟩ := hd
          have nd2 : i ∉ lent ts ∧ (lent ts).Nodup := by simpa [lent] using nd
          have hl2 : i ∈ l ∧ ∀ j ∈ lent ts, j ∈ l := by
            have : ∀ j, j ∈ i :: lent ts → j ∈ l := by simpa [lent] using hl
            exact ⟨this i (List.mem_cons_self ..), fun j hj => this j (List.mem_cons_of_mem _ hj)⟩
          obtain ⟨as, l1, a1, s1⟩ := args_of er l r q h1 nd2.2 hl2.2 ho
          obtain ⟨w, e1, _, e3⟩ := er.sl i true d z
          obtain ⟨a, rfl, ow, hf⟩ := e3 rfl
          rw [e1] at hv
          cases hv
          refine ⟨a :: as, .io e1 l1, .io ow (hold_none (G := G) hf fun j d' hj hs => ?_) (fun ha => ?_) a1, fun c hc => ?_⟩
          · rw [er.dj j i d' d _ hj z hs e1]
            exact hl2.1
          · rcases s1 a ha with ⟨j, hj, hs⟩ | ns
            · obtain ⟨d', hd'⟩ := ho j (hl2.2 j hj)
              exact nd2.1 (er.dj j i d' d _ hd' z hs e1 ▸ hj)
            · exact ns i d z e1
          · rcases List.mem_cons.mp hc with rfl | hc
            · exact .inl ⟨i, by simp [lent], e1⟩
            · rcases s1 c hc with ⟨j, hj, hs⟩ | ns
              · exact .inl ⟨j, by simp only [lent, List.filterMap_cons, List.mem_cons]; exact .inr hj, hs⟩
              · exact .inr ns
  | _, _, _, ds, .tmp ow hf ns, .tmp, hd, nd, hl, ho => by
    simp only [atVals, Option.map_some] at hd
    cases hd
    exact ⟨_, .tmp, .io ow (hold_none (G := G) hf fun j d' hj hs => absurd hs (ns j d' hj)) (by simp) .nil, fun c hc => by
      simp only [List.mem_singleton] at hc
      subst hc
      exact .inr ns⟩
theorem atVals_owned {e : En} : ∀ {ts : List At} {ds : List D}, atVals e ts = some ds → ∀ i ∈ lent ts, ∃ d, e[i]? = some (some (true, d))
  | [], _, _, i, hi => by simp [lent] at hi
  | .v d :: ts, _, h, i, hi => by
    simp only [atVals, Option.map_eq_some_iff] at h
    obtain ⟨ds', h1, _⟩ := h
    exact atVals_owned h1 i (by simpa [lent] using hi)
  | .tmp d :: ts, _, h, i, hi => by
    simp only [atVals, Option.map_eq_some_iff] at h
    obtain ⟨ds', h1, _⟩ := h
    exact atVals_owned h1 i (by simpa [lent] using hi)
  | .io j :: ts, _, h, i, hi => by
    simp only [atVals] at h
    cases z : e[j]? with
    | none => simp only [z] at h; cases h
    | some s =>
      cases s with
      | none => simp only [z] at h; cases h
      | some s =>
        obtain ⟨b, d⟩ := s
        cases b with
        | false => simp only [z] at h; cases h
        | true =>
          simp only [z, Option.map_eq_some_iff] at h
          obtain ⟨ds', h1, _⟩ := h
          have : i = j ∨ i ∈ lent ts := by simpa [lent] using hi
          rcases this with rfl | hi
          · exact ⟨d, z⟩
          · exact atVals_owned h1 i hi
/-- the slots behind the call: those that were lent hold what the def left in them -/
theorem outs_at {σ : L2.St} {G H : Hp} : ∀ {ts : List At} {as : List Addr} {outs : List D} {e e2 : En}, LentAt σ ts as → OutsR G H as outs → putOuts ts outs e = some e2 → (lent ts).Nodup → (∀ i ∈ lent ts, i < e.length) →
    e2.length = e.length ∧ (∀ j, j ∉ lent ts → e2[j]? = e[j]?) ∧ ∀ j ∈ lent ts, ∃ a d, e2[j]? = some (some (true, d)) ∧ σ[j]? = some (some (V.ref a)) ∧ Ow G H a d ∧ a ∈ as
  | _, _, _, e, e2, .nil, .nil, h, _, _ => by cases h; exact ⟨rfl, fun _ _ => rfl, fun j hj => by simp [lent] at hj⟩
  | .v d :: ts, as, outs, e, e2, .v l, o, h, nd, hl => by
    have := outs_at l o (by simpa [putOuts] using h) (by simpa [lent] using nd) (by simpa [lent] using hl)
    simpa [lent] using this
  | .io i :: ts, _, _, e, e2, .io (a := a) hs l, .cons ow o, h, nd, hl => by
    rename_i as d ds
    have nd2 : i ∉ lent ts ∧ (lent ts).Nodup := by simpa [lent] using nd
    have hl2 : ∀ j, j = i ∨ j ∈ lent ts → j < e.length := by simpa [lent] using hl
    have h' : putOuts ts ds (e.set i (some (true, d))) = some e2 := by simpa [putOuts] using h
    obtain ⟨r1, r2, r3⟩ := outs_at l o h' nd2.2 (fun j hj => by rw [List.length_set]; exact hl2 j (.inr hj))
    rw [List.length_set] at r1
    refine ⟨r1, fun j hj => ?_, fun j hj => ?_⟩
    · have hj2 : j ≠ i ∧ j ∉ lent ts := by simpa [lent] using hj
      rw [r2 j hj2.2, List.getElem?_set_ne (fun z => hj2.1 z.symm)]
    · have hj2 : j = i ∨ j ∈ lent ts := by simpa [lent] using hj
      rcases hj2 with rfl | hj2
      · refine ⟨a, d, ?_, hs, ow, List.mem_cons_self ..⟩
        rw [r2 j nd2.1, List.getElem?_set_self (hl2 j (.inl rfl))]
      · obtain ⟨b, x, q1, q2, q3, q4⟩ := r3 j hj2
        exact ⟨b, x, q1, q2, q3, List.mem_cons_of_mem _ q4⟩
  | _, _, _, e, e2, .tmp, .cons ow o, h, _, _ => by
    cases o
    have : e2 = e := by simpa [putOuts] using h.symm
    subst this
    exact ⟨rfl, fun _ _ => rfl, fun j hj => by simp [lent] at hj⟩
theorem lose_at : ∀ (ts : List At) (e : En), (loseOuts ts e).length = e.length ∧ ∀ (j : Nat) (s : Bool × D), (loseOuts ts e)[j]? = some (some s) → j ∉ lent ts ∧ e[j]? = some (some s)
  | [], e => ⟨rfl, fun j s h => ⟨by simp [lent], h⟩⟩
  | .v d :: ts, e => by
    obtain ⟨h1, h2⟩ := lose_at ts e
    exact ⟨h1, fun j s h => by simpa [lent] using h2 j s h⟩
  | .tmp d :: ts, e => by
    obtain ⟨h1, h2⟩ := lose_at ts e
    exact ⟨h1, fun j s h => by simpa [lent] using h2 j s h⟩
  | .io i :: ts, e => by
    obtain ⟨h1, h2⟩ := lose_at ts (e.set i none)
    rw [List.length_set] at h1
    refine ⟨h1, fun j s h => ?_⟩
    obtain ⟨q1, q2⟩ := h2 j s h
    by_cases hj : i = j
    · subst hj
      by_cases hlt : i < e.length
      · rw [List.getElem?_set_self hlt] at q2; cases q2
      · rw [List.getElem?_eq_none (by rw [List.length_set]; omega)] at q2; cases q2
    · rw [List.getElem?_set_ne hj] at q2
      refine ⟨?_, q2⟩
      simp only [lent, List.filterMap_cons, List.mem_cons, not_or]
      exact ⟨fun z => hj z.symm, q1⟩
theorem l_call {mg : Str → Option Value} {io : List Bool} {f : Fn} {as : List Ar} (shape : ∀ env ts e, evArs as env = .ok ts e → IoAs io ts ∧ (lent ts).Nodup) (σ : L2.St) (H : Hp) (Q : VK) (h : tX W (xCall f as) σ H Q) :
    tCallS (spF mg io f) (fun σ cls d H => d = none ∧ ∃ c, mg c = some cls ∧ W c σ H) (tArs W as) σ H Q := by
  obtain ⟨g, env, G, er, h⟩ := h
  refine ⟨g, env, G, er, ?_⟩
  unfold xCall at h
  cases q : evArs as env with
  | bad => rw [q] at h; exact h
  | exc c e => rw [q] at h; exact h
  | ok ts e =>
    rw [q] at h
    simp only [Re.bind_ok] at h
    intro G1 H1 x1 er1 vs hvs
    obtain ⟨sh, nd⟩ := shape _ _ _ q
    cases q2 : atVals e ts with
    | none => simp only [q2] at h; exact h.elim
    | some ds =>
      simp only [q2] at h
      obtain ⟨as', l1, ar, hs⟩ := args_of er1 (lent ts) hvs sh q2 nd (fun i hi => hi) (atVals_owned q2)
      refine ⟨hold g e σ H1 (lent ts), G1, ds, as', hold_tup er1, hold_keeps er1, ar, ?_⟩
      have slots : ∀ (j : Nat) (d : D), e[j]? = some (some (true, d)) → j ∉ lent ts → ∀ {H2 G2 : Hp}, Ext G1 G2 → Keeps (hold g e σ H1 (lent ts)) G2 H2 → ∃ v, σ[j]? = some (some v) ∧ ∃ a, v = .ref a ∧ Ow G2 H2 a d ∧ g.F a = none := fun j d hj hn H2 G2 x2 k2 => by
        obtain ⟨v, e1, _, e3⟩ := er1.sl j true d hj
        obtain ⟨a, rfl, ⟨n, o, ho, c⟩, hf⟩ := e3 rfl
        have hh := hold_slot (g := g) (G := G1) (H := H1) hj e1 hn
        rw [ho] at hh
        obtain ⟨k3, k4⟩ := k2.2 a o hh
        exact ⟨_, e1, a, rfl, ⟨k4, o, k3, c.ext x2⟩, hf⟩
      cases q3 : f ds with
      | bad => simp only [q3] at h; exact h.elim
      | exc c =>
        simp only [q3] at h ⊢
        intro H2 G2 cls x2 k2 hm
        refine ⟨(by trivial), c, hm, h G2 H2 (x1.trans x2) ?_⟩
        obtain ⟨ln, lk⟩ := lose_at ts e
        refine ⟨k2.1, fun a o ho => k2.2 a o (hold_F er1 ho), by rw [ln]; exact er1.len, fun i b d hi => ?_, fun i j d d' v hi hj => ?_, er1.io⟩
        · obtain ⟨hn, hi⟩ := lk i _ hi
          cases b with
          | false =>
            obtain ⟨v, e1, e2, _⟩ := er1.sl i false d hi
            exact ⟨v, e1, fun _ => (e2 rfl).ext x2, fun z => by cases z⟩
          | true =>
            obtain ⟨v, e1, e2⟩ := slots i d hi hn x2 k2
            exact ⟨v, e1, (fun z => by cases z), fun _ => e2⟩
        · exact er1.dj i j d d' v (lk i _ hi).2 (lk j _ hj).2
      | ok d fr outs =>
        simp only [q3] at h ⊢
        intro v H2 G2 x2 k2 os rt
        cases q4 : putOuts ts outs e with
        | none => simp only [q4] at h; exact h.elim
        | some e2 =>
          simp only [q4] at h
          have lt : ∀ i ∈ lent ts, i < e.length := fun i hi => by
            obtain ⟨d, hd⟩ := atVals_owned q2 i hi
            rcases Nat.lt_or_ge i e.length with z | z
            · exact z
            · rw [List.getElem?_eq_none z] at hd; cases hd
          obtain ⟨r1, r2, r3⟩ := outs_at l1 os q4 nd lt
          have own : ∀ (j : Nat) (x : D), e2[j]? = some (some (true, x)) → ∃ x0, e[j]? = some (some (true, x0)) := fun j x hj => by
            by_cases hl : j ∈ lent ts
            · exact atVals_owned q2 j hl
            · rw [r2 j hl] at hj; exact ⟨x, hj⟩
          have er2 : Er g e2 G2 σ H2 := by
            refine ⟨k2.1, fun a o ho => k2.2 a o (hold_F er1 ho), by rw [r1]; exact er1.len, fun i b x hi => ?_, fun i j x y w hi hj => ?_, er1.io⟩
            · by_cases hl : i ∈ lent ts
              · obtain ⟨a, y, p1, p2, p3, p4⟩ := r3 i hl
                rw [p1] at hi
                cases hi
                obtain ⟨x0, hx0⟩ := atVals_owned q2 i hl
                obtain ⟨v0, z1, _, z3⟩ := er1.sl i true x0 hx0
                obtain ⟨a0, rfl, _, hf⟩ := z3 rfl
                rw [p2] at z1
                cases z1
                exact ⟨_, p2, (fun z => by cases z), fun _ => ⟨a, rfl, p3, hf⟩⟩
              · rw [r2 i hl] at hi
                cases b with
                | false =>
                  obtain ⟨v, e1, e2, _⟩ := er1.sl i false x hi
                  exact ⟨v, e1, fun _ => (e2 rfl).ext x2, fun z => by cases z⟩
                | true =>
                  obtain ⟨v, e1, e2⟩ := slots i x hi hl x2 k2
                  exact ⟨v, e1, (fun z => by cases z), fun _ => e2⟩
            · obtain ⟨x0, hx0⟩ := own i x hi
              obtain ⟨y0, hy0⟩ := own j y hj
              exact er1.dj i j x0 y0 w hx0 hy0
          refine h G2 H2 (x1.trans x2) er2 v ?_
          rcases rt with ⟨hb, rp⟩ | ⟨hb, a, rfl, ow, hf, hn⟩
          · exact .inl ⟨hb, rp⟩
          · have key : ∀ (j : Nat) (x : D), e[j]? = some (some (true, x)) → σ[j]? = some (some (V.ref a)) → j ∈ lent ts := fun j x hj hs => by
              by_cases hl : j ∈ lent ts
              · exact hl
              · exfalso
                obtain ⟨v0, z1, _, z3⟩ := er1.sl j true x hj
                obtain ⟨a0, rfl, ⟨_, o, ho, _⟩, _⟩ := z3 rfl
                rw [hs] at z1
                cases z1
                rw [hold_slot (g := g) (G := G1) (H := H1) hj hs hl, ho] at hf
                cases hf
            refine .inr ⟨hb, a, rfl, ow, ?_, fun j x hj hs => ?_⟩
            · cases z : g.F a with
              | none => rfl
              | some o => rw [hold_F er1 z] at hf; cases hf
            · obtain ⟨x0, hx0⟩ := own j x hj
              have hl := key j x0 hx0 hs
              obtain ⟨b, y, p1, p2, p3, p4⟩ := r3 j hl
              rw [hs] at p2
              cases p2
              exact hn p4
end
end G6

namespace G6
open PySem PySem.Spec L2
section
variable {g : Gh} {env : En} {G : Hp} {σ : L2.St} {H : Hp}
theorem get_lt {α : Type} {l : List α} {i : Nat} {x : α} (h : l[i]? = some x) : i < l.length := by
  rcases Nat.lt_or_ge i l.length with q | q
  · exact q
  · rw [List.getElem?_eq_none q] at h; cases h
theorem set_some {e : En} {i j : Nat} {s t : Bool × D} (h : (e.set i (some s))[j]? = some (some t)) : (j = i ∧ t = s) ∨ (j ≠ i ∧ e[j]? = some (some t)) := by
  by_cases hj : i = j
  · subst hj
    by_cases hlt : i < e.length
    · rw [List.getElem?_set_self hlt] at h
      exact .inl ⟨rfl, (Option.some.inj (Option.some.inj h)).symm⟩
    · rw [List.getElem?_eq_none (by rw [List.length_set]; omega)] at h; cases h
  · rw [List.getElem?_set_ne hj] at h
    exact .inr ⟨fun z => hj z.symm, h⟩
/-- a variable's own object is changed -/
theorem Er.mutate (er : Er g env G σ H) {i : Nat} {d d' : D} {a : Addr} {o : HO} (h : env[i]? = some (some (true, d))) (hs : σ[i]? = some (some (V.ref a))) (c : Ct G o d') : Er g (env.set i (some (true, d'))) G σ (upd H a o) := by
  obtain ⟨v, e1, _, e3⟩ := er.sl i true d h
  obtain ⟨b, rfl, ⟨n, x, hx, cx⟩, hf⟩ := e3 rfl
  rw [hs] at e1
  cases e1
  refine ⟨fun b y e => ?_, fun b y e => ?_, by rw [List.length_set]; exact er.len, fun j b y hj => ?_, fun j k y z w hj hk s1 s2 => ?_, er.io⟩
  · rw [upd_ne (ne_of_none e n)]; exact er.gH b y e
  · rw [upd_ne (ne_of_none e hf)]; exact er.fH b y e
  · rcases set_some hj with ⟨rfl, q⟩ | ⟨q, hj⟩
    · cases q
      exact ⟨_, hs, (fun z => by cases z), fun _ => ⟨a, rfl, ⟨n, o, upd_same, c⟩, hf⟩⟩
    · obtain ⟨v, z1, z2, z3⟩ := er.sl j b y hj
      refine ⟨v, z1, z2, fun hb => ?_⟩
      obtain ⟨c2, rfl, ⟨n2, x2, hx2, cx2⟩, hf2⟩ := z3 hb
      subst hb
      refine ⟨c2, rfl, ⟨n2, x2, ?_, cx2⟩, hf2⟩
      rw [upd_ne (fun e => q (er.dj j i y d _ hj h z1 (by rw [e]; exact hs)))]
      exact hx2
  · have own : ∀ (j : Nat) (y : D), (env.set i (some (true, d')))[j]? = some (some (true, y)) → ∃ y0, env[j]? = some (some (true, y0)) := fun j y hj => by
      rcases set_some hj with ⟨rfl, q⟩ | ⟨q, hj⟩
      · exact ⟨d, h⟩
      · exact ⟨y, hj⟩
    obtain ⟨y0, hy0⟩ := own j y hj
    obtain ⟨z0, hz0⟩ := own k z hk
    exact er.dj j k y0 z0 w hy0 hz0 s1 s2
/-- a result is stored in a variable -/
theorem Er.store (er : Er g env G σ H) {i : Nat} {r : D × Bool} {v : V} (hv : Vr g env G σ H r v) (hi : ∀ p ∈ g.io, p.1 ≠ i) : Er g (env.set i (some (r.2, r.1))) G (σ.set i (some v)) H := by
  by_cases hlt : i < σ.length
  · have hlt2 : i < env.length := by rw [er.len]; exact hlt
    have same : ∀ j, j ≠ i → (σ.set i (some v))[j]? = σ[j]? := fun j hj => List.getElem?_set_ne (fun z => hj z.symm)
    have at_i : (σ.set i (some v))[i]? = some (some v) := List.getElem?_set_self hlt
    refine ⟨er.gH, er.fH, by rw [List.length_set, List.length_set]; exact er.len, fun j b y hj => ?_, fun j k y z w hj hk s1 s2 => ?_, fun p hp => ?_⟩
    · rcases set_some hj with ⟨rfl, q⟩ | ⟨q, hj⟩
      · cases q
        refine ⟨v, at_i, fun hb => ?_, fun hb => ?_⟩
        · rcases hv with ⟨_, rp⟩ | ⟨z, _⟩
          · exact rp
          · rw [hb] at z; cases z
        · rcases hv with ⟨z, _⟩ | ⟨_, a, rfl, ow, hf, _⟩
          · rw [hb] at z; cases z
          · exact ⟨a, rfl, ow, hf⟩
      · obtain ⟨w, z1, z2, z3⟩ := er.sl j b y hj
        exact ⟨w, by rw [same j q]; exact z1, z2, z3⟩
    · have ns : ∀ (j : Nat) (y : D), env[j]? = some (some (true, y)) → r.2 = true → σ[j]? ≠ some (some v) := fun j y hj hr => by
        rcases hv with ⟨z, _⟩ | ⟨_, a, rfl, _, _, ns⟩
        · rw [hr] at z; cases z
        · exact ns j y hj
      rcases set_some hj with ⟨ej, q⟩ | ⟨q, hj2⟩
      · rcases set_some hk with ⟨ek, q2⟩ | ⟨q2, hk2⟩
        · rw [ej, ek]
        · rw [ej, at_i] at s1
          cases s1
          rw [same k q2] at s2
          have hr : r.2 = true := by
            have := congrArg Prod.fst q
            exact this.symm
          exact absurd s2 (ns k z hk2 hr)
      · rcases set_some hk with ⟨ek, q2⟩ | ⟨q2, hk2⟩
        · rw [ek, at_i] at s2
          cases s2
          rw [same j q] at s1
          have hr : r.2 = true := by
            have := congrArg Prod.fst q2
            exact this.symm
          exact absurd s1 (ns j y hj2 hr)
        · rw [same j q] at s1
          rw [same k q2] at s2
          exact er.dj j k y z w hj2 hk2 s1 s2
    · rw [same p.1 (hi p hp)]
      exact er.io p hp
  · have h1 : σ.set i (some v) = σ := List.set_eq_of_length_le (by omega)
    have h2 : env.set i (some (r.2, r.1)) = env := List.set_eq_of_length_le (by rw [er.len]; omega)
    rw [h1, h2]
    exact er
/-- fewer slots are known -/
theorem Er.forget (er : Er g env G σ H) {e : En} {τ : L2.St} (hl : e.length = τ.length) (h : ∀ (i : Nat) (s : Bool × D), e[i]? = some (some s) → env[i]? = some (some s) ∧ τ[i]? = σ[i]?) (hio : ∀ p ∈ g.io, τ[p.1]? = σ[p.1]?) : Er g e G τ H := by
  refine ⟨er.gH, er.fH, hl, fun i b d hi => ?_, fun i j d d' v hi hj s1 s2 => ?_, fun p hp => ?_⟩
  · obtain ⟨q1, q2⟩ := h i _ hi
    rw [q2]
    exact er.sl i b d q1
  · obtain ⟨q1, q2⟩ := h i _ hi
    obtain ⟨q3, q4⟩ := h j _ hj
    rw [q2] at s1
    rw [q4] at s2
    exact er.dj i j d d' v q1 q3 s1 s2
  · rw [hio p hp]; exact er.io p hp
end
/-! ### targets -/
mutual
def gTg (K : PySem.W.Frag) : Tg → TG
  | .nm i => gName i
  | .tup ts => gTup K ts.length (gTgs K ts)
def gTgs (K : PySem.W.Frag) : List Tg → TGs
  | [] => gNil
  | t :: ts => gCons (gTg K t) (gTgs K ts)
end
/-- what a store into these slots leaves -/
def Off (l : List Nat) (σ τ : L2.St) : Prop := τ.length = σ.length ∧ ∀ j, j ∉ l → τ[j]? = σ[j]?
theorem Off.refl (l : List Nat) (σ : L2.St) : Off l σ σ := ⟨rfl, fun _ _ => rfl⟩
theorem Off.trans {l m : List Nat} {σ τ υ : L2.St} (a : Off l σ τ) (b : Off m τ υ) : Off (l ++ m) σ υ :=
  ⟨b.1.trans a.1, fun j hj => by
    simp only [List.mem_append, not_or] at hj
    rw [b.2 j hj.2, a.2 j hj.1]⟩
mutual
theorem put_ok {K : PySem.W.Frag} {g : Gh} {G H : Hp} : ∀ (t : Tg) {e e' : En} {σ : L2.St} {v : V} {d : D} {Q : L2.St → Hp → Prop}, Er g e G σ H → Rp G v d → t.put d e = some e' → (∀ p ∈ g.io, p.1 ∉ t.slots) → (∀ τ, Er g e' G τ H → Off t.slots σ τ → Q τ H) → gTg K t v σ H Q
  | .nm i, e, e', σ, v, d, Q, er, rp, h, hio, hq => by
    simp only [Tg.put, Option.some.injEq] at h
    subst h
    have er2 := er.store (i := i) (r := (d, false)) (v := v) (.inl ⟨rfl, rp⟩) (fun p hp z => hio p hp (by simp [Tg.slots, z]))
    refine hq _ er2 ⟨by rw [List.length_set], fun j hj => ?_⟩
    rw [List.getElem?_set_ne]
    intro z
    exact hj (by simp [Tg.slots, z])
  | .tup ts, e, e', σ, v, d, Q, er, rp, h, hio, hq => by
    cases d with
    | tuple ds =>
      simp only [Tg.put] at h
      cases rp with
      | @tup a vs _ ga ha =>
        have hl : ds.length = ts.length := putAll_len h
        exact ⟨a, vs, rfl, sqT (er.gH _ _ ga), by rw [ha.length, hl], putAll_ok ts er ha h (by simpa [Tg.slots] using hio) (by simpa [Tg.slots] using hq)⟩
    | _ => simp [Tg.put] at h
theorem putAll_ok {K : PySem.W.Frag} {g : Gh} {G H : Hp} : ∀ (ts : List Tg) {e e' : En} {σ : L2.St} {vs : List V} {ds : List D} {Q : L2.St → Hp → Prop}, Er g e G σ H → RpAll G vs ds → putAll ts ds e = some e' → (∀ p ∈ g.io, p.1 ∉ slotsAll ts) → (∀ τ, Er g e' G τ H → Off (slotsAll ts) σ τ → Q τ H) → gTgs K ts vs σ H Q
  | [], e, e', σ, vs, ds, Q, er, rp, h, hio, hq => by
    cases ds with
    | nil =>
      simp only [putAll, Option.some.injEq] at h
      subst h
      cases rp
      exact ⟨rfl, hq σ er (.refl _ _)⟩
    | cons d ds => simp [putAll] at h
  | t :: ts, e, e', σ, vs, ds, Q, er, rp, h, hio, hq => by
    cases rp with
    | nil => simp [putAll] at h
    | @cons v vs d ds r1 r2 =>
      simp only [putAll] at h
      cases q : t.put d e with
      | none => simp only [q] at h; cases h
      | some e1 =>
        simp only [q] at h
        refine ⟨v, vs, rfl, put_ok t er r1 q (fun p hp z => hio p hp (by simp [slotsAll, z])) fun τ er1 off1 => ?_⟩
        refine putAll_ok ts er1 r2 h (fun p hp z => hio p hp (by simp [slotsAll, z])) fun υ er2 off2 => hq υ er2 ?_
        simpa [slotsAll] using off1.trans off2
theorem putAll_len : ∀ {ts : List Tg} {ds : List D} {e e' : En}, putAll ts ds e = some e' → ds.length = ts.length
  | [], [], _, _, _ => rfl
  | [], _ :: _, _, _, h => by simp [putAll] at h
  | _ :: _, [], _, _, h => by simp [putAll] at h
  | t :: ts, d :: ds, e, e', h => by
    simp only [putAll] at h
    cases q : t.put d e with
    | none => simp only [q] at h; cases h
    | some e1 =>
      simp only [q] at h
      rw [List.length_cons, List.length_cons, putAll_len h]
end
theorem wipe_get (σ : L2.St) (vs : List Nat) (j : Nat) : (wipe σ vs)[j]? = if j ∈ vs ∧ j < σ.length then some none else σ[j]? := by
  induction vs with
  | nil => simp [wipe]
  | cons v r ih =>
    unfold wipe
    by_cases hj : v = j
    · subst hj
      by_cases hlt : v < σ.length
      · rw [List.getElem?_set_self (by rw [wipe_length]; exact hlt)]
        simp [hlt]
      · rw [List.getElem?_eq_none (by rw [List.length_set, wipe_length]; omega), List.getElem?_eq_none (by omega)]
        simp [hlt]
    · rw [List.getElem?_set_ne hj, ih]
      have : (j ∈ v :: r) ↔ j ∈ r := by
        simp only [List.mem_cons]
        exact ⟨fun z => z.resolve_left (fun q => hj q.symm), .inr⟩
      simp only [this]
theorem wipe_off {l vs : List Nat} {σ τ : L2.St} (h : Off l σ τ) (hs : ∀ i ∈ l, i ∈ vs) : wipe τ vs = wipe σ vs := by
  refine List.ext_getElem? fun j => ?_
  rw [wipe_get, wipe_get, h.1]
  by_cases hj : j ∈ vs
  · by_cases hlt : j < σ.length
    · simp [hj, hlt]
    · simp only [hj, hlt, and_false, if_false]
      rw [List.getElem?_eq_none (by have := h.1; omega), List.getElem?_eq_none (by have := h.1; omega)]
  · simp only [hj, false_and, if_false]
    exact h.2 j (fun z => hj (hs j z))
theorem wipeE_get (e : En) (vs : List Nat) (j : Nat) : (wipeE e vs)[j]? = if j ∈ vs ∧ j < e.length then some none else e[j]? := by
  induction vs with
  | nil => simp [wipeE]
  | cons v r ih =>
    have len : ∀ vs : List Nat, (wipeE e vs).length = e.length := fun vs => by
      induction vs with
      | nil => rfl
      | cons a b ih2 => unfold wipeE; rw [List.length_set, ih2]
    unfold wipeE
    by_cases hj : v = j
    · subst hj
      by_cases hlt : v < e.length
      · rw [List.getElem?_set_self (by rw [len]; exact hlt)]
        simp [hlt]
      · rw [List.getElem?_eq_none (by rw [List.length_set, len]; omega), List.getElem?_eq_none (by omega)]
        simp [hlt]
    · rw [List.getElem?_set_ne hj, ih]
      have : (j ∈ v :: r) ↔ j ∈ r := by
        simp only [List.mem_cons]
        exact ⟨fun z => z.resolve_left (fun q => hj q.symm), .inr⟩
      simp only [this]
theorem wipeE_length (e : En) (vs : List Nat) : (wipeE e vs).length = e.length := by
  induction vs with
  | nil => rfl
  | cons a b ih2 => unfold wipeE; rw [List.length_set, ih2]
theorem backE_get (e0 e : En) (vs : List Nat) (j : Nat) : (backE e0 e vs)[j]? = if j ∈ vs ∧ j < e.length then some ((e0[j]?).getD none) else e[j]? := by
  have len : ∀ vs : List Nat, (backE e0 e vs).length = e.length := fun vs => by
    induction vs with
    | nil => rfl
    | cons a b ih2 => unfold backE; rw [List.length_set, ih2]
  induction vs with
  | nil => simp [backE]
  | cons v r ih =>
    unfold backE
    by_cases hj : v = j
    · subst hj
      by_cases hlt : v < e.length
      · rw [List.getElem?_set_self (by rw [len]; exact hlt)]
        simp [hlt]
      · simp only [hlt, and_false, if_false]
        rw [List.getElem?_eq_none (by rw [List.length_set, len]; omega), List.getElem?_eq_none (by omega)]
    · rw [List.getElem?_set_ne hj, ih]
      have : (j ∈ v :: r) ↔ j ∈ r := by
        simp only [List.mem_cons]
        exact ⟨fun z => z.resolve_left (fun q => hj q.symm), .inr⟩
      simp only [this]
theorem backE_length (e0 e : En) (vs : List Nat) : (backE e0 e vs).length = e.length := by
  induction vs with
  | nil => rfl
  | cons a b ih2 => unfold backE; rw [List.length_set, ih2]
end G6

namespace G6
open PySem PySem.Spec L2
/-! ### what is walked -/
/-- J gives ds, one after the other, while what was known is known -/
def Goes (J : L2.It) (ds : List D) (G : Hp) : Prop := ∀ G2 H2, Ext G G2 → Same G2 H2 → ∀ k : Nat, (∀ d, ds[k]? = some d → J.go k H2 ∧ ∀ x H3, J.yld k H2 x H3 → Out G2 H2 H3 x (d, false)) ∧ (ds[k]? = none → J.stop k H2)
theorem Goes.ext {J : L2.It} {ds : List D} {G G1 : Hp} (h : Goes J ds G) (x : Ext G G1) : Goes J ds G1 := fun G2 H2 y s k => h G2 H2 (x.trans y) s k
section
variable {K : PySem.W.Frag} {G : Hp}
theorem get_none {α : Type} {l : List α} {k : Nat} (h : l[k]? = none) : l.length ≤ k := List.getElem?_eq_none_iff.mp h
theorem goes_list {a : Addr} {vs : List V} {ds : List D} (r : Rd G a (.lst vs)) (h : RpAll G vs ds) : Goes (Itl K a) ds G := fun G2 H2 x s k => by
  have r2 : Rd H2 a (.lst vs) := rd_same s (x.ls a vs r)
  refine ⟨fun d hd => ?_, fun hn => ⟨vs, sqL r2, by rw [h.length]; exact get_none hn⟩⟩
  obtain ⟨v, hv, rp⟩ := h.get hd
  refine ⟨⟨vs, v, sqL r2, hv⟩, fun y H3 hy => ?_⟩
  obtain ⟨rfl, hy⟩ := hy
  have e := hy vs (sqL r2)
  rw [hv] at e
  cases e
  exact .old (rp.ext x)
theorem goes_tuple {a : Addr} {vs : List V} {ds : List D} (r : G a = some (.tup vs)) (h : RpAll G vs ds) : Goes (Itt K a) ds G := fun G2 H2 x s k => by
  have r2 : H2 a = some (.tup vs) := s _ _ (x.tp a vs r)
  refine ⟨fun d hd => ?_, fun hn => ⟨vs, sqT r2, by rw [h.length]; exact get_none hn⟩⟩
  obtain ⟨v, hv, rp⟩ := h.get hd
  refine ⟨⟨vs, v, sqT r2, hv⟩, fun y H3 hy => ?_⟩
  obtain ⟨rfl, hy⟩ := hy
  have e := hy vs (sqT r2)
  rw [hv] at e
  cases e
  exact .old (rp.ext x)
theorem goes_str {z : Str} : Goes (Its z) (chars z) G := fun G2 H2 x s k => by
  have w := walk_str (z := z)
  have len : (chars z).length = z.cps.size := by simp [chars]
  refine ⟨fun d hd => ?_, fun hn => ?_⟩
  · have hk : k < z.cps.size := by rw [← len]; exact get_lt hd
    refine ⟨w.goes k H2 hk trivial, fun y H3 hy => ?_⟩
    obtain ⟨rfl, c, hc, rfl⟩ := w.yields k H2 y H3 hk trivial hy
    have e : d = .str ⟨#[c]⟩ := by
      simp only [chars, List.getElem?_map, Array.getElem?_toList, hc, Option.map_some, Option.some.injEq] at hd
      exact hd.symm
    rw [e]
    exact .old (.str _)
  · have hk := get_none hn
    rw [len] at hk
    have hs := w.stops H2 trivial
    have : (Its z).stop k H2 := by
      show z.cps.size ≤ k
      exact hk
    exact this
theorem rng_get {lo hi : Int} {k : Nat} {d : D} (h : (rngD lo hi)[k]? = some d) : d = .int (lo + (k : Int)) ∧ k < (hi - lo).toNat := by
  have hk : k < (hi - lo).toNat := by
    have := get_lt h
    simpa [rngD] using this
  refine ⟨?_, hk⟩
  simp only [rngD, List.getElem?_map, List.getElem?_range hk, Option.map_some, Option.some.injEq] at h
  exact h.symm
theorem goes_rng {lo hi : Int} : Goes (Itr lo (hi - lo).toNat) (rngD lo hi) G := fun G2 H2 x s k => by
  refine ⟨fun d hd => ?_, fun hn => ?_⟩
  · obtain ⟨rfl, hk⟩ := rng_get hd
    refine ⟨hk, fun y H3 hy => ?_⟩
    obtain ⟨rfl, rfl⟩ := hy
    exact .old (.int _)
  · have hk := get_none hn
    simp only [rngD, List.length_map, List.length_range] at hk
    exact hk
theorem zip_get : ∀ {xs ys : List D} {k : Nat} {d : D}, (zipD xs ys)[k]? = some d → ∃ x y, xs[k]? = some x ∧ ys[k]? = some y ∧ d = .tuple [x, y]
  | [], _, _, _, h => by simp [zipD] at h
  | _ :: _, [], _, _, h => by simp [zipD] at h
  | x :: xs, y :: ys, 0, d, h => by
    simp [zipD] at h
    exact ⟨x, y, rfl, rfl, h.symm⟩
  | x :: xs, y :: ys, k + 1, d, h => by
    obtain ⟨a, b, h1, h2, h3⟩ := zip_get (xs := xs) (ys := ys) (k := k) (d := d) (by simpa [zipD] using h)
    exact ⟨a, b, by simpa using h1, by simpa using h2, h3⟩
theorem zip_none : ∀ {xs ys : List D} {k : Nat}, (zipD xs ys)[k]? = none → xs.length ≤ k ∨ ys.length ≤ k
  | [], _, _, h => .inl (Nat.zero_le _)
  | _ :: _, [], _, h => .inr (Nat.zero_le _)
  | x :: xs, y :: ys, 0, h => by simp [zipD] at h
  | x :: xs, y :: ys, k + 1, h => by
    have := zip_none (xs := xs) (ys := ys) (k := k) (by simpa [zipD] using h)
    simp only [List.length_cons]
    omega
theorem goes_zipL {a b : Addr} {vs ws : List V} {xs ys : List D} (r1 : Rd G a (.lst vs)) (h1 : RpAll G vs xs) (r2 : Rd G b (.lst ws)) (h2 : RpAll G ws ys) : Goes (Itz K a b) (zipD xs ys) G := fun G2 H2 x s k => by
  have q1 : Rd H2 a (.lst vs) := rd_same s (x.ls a vs r1)
  have q2 : Rd H2 b (.lst ws) := rd_same s (x.ls b ws r2)
  refine ⟨fun d hd => ?_, fun hn => ⟨vs, ws, sqL q1, sqL q2, by rw [h1.length, h2.length]; exact zip_none hn⟩⟩
  obtain ⟨d1, d2, e1, e2, rfl⟩ := zip_get hd
  obtain ⟨v, hv, rp⟩ := h1.get e1
  obtain ⟨w, hw, rq⟩ := h2.get e2
  refine ⟨⟨vs, ws, v, w, sqL q1, sqL q2, hv, hw⟩, fun y H3 hy => ?_⟩
  obtain ⟨T, y1, y2, rfl, hT, rfl, f1, f2⟩ := hy
  have z1 := f1 vs (sqL q1)
  have z2 := f2 ws (sqL q2)
  rw [hv] at z1
  rw [hw] at z2
  cases z1
  cases z2
  exact .tup hT (.cons (rp.ext x) (.cons (rq.ext x) .nil))
theorem goes_zipT {a b : Addr} {vs ws : List V} {xs ys : List D} (r1 : G a = some (.tup vs)) (h1 : RpAll G vs xs) (r2 : G b = some (.tup ws)) (h2 : RpAll G ws ys) : Goes (RZ.ItzT K a b) (zipD xs ys) G := fun G2 H2 x s k => by
  have q1 : H2 a = some (.tup vs) := s _ _ (x.tp a vs r1)
  have q2 : H2 b = some (.tup ws) := s _ _ (x.tp b ws r2)
  refine ⟨fun d hd => ?_, fun hn => ⟨vs, ws, sqT q1, sqT q2, by rw [h1.length, h2.length]; exact zip_none hn⟩⟩
  obtain ⟨d1, d2, e1, e2, rfl⟩ := zip_get hd
  obtain ⟨v, hv, rp⟩ := h1.get e1
  obtain ⟨w, hw, rq⟩ := h2.get e2
  refine ⟨⟨vs, ws, v, w, sqT q1, sqT q2, hv, hw⟩, fun y H3 hy => ?_⟩
  obtain ⟨T, y1, y2, rfl, hT, rfl, f1, f2⟩ := hy
  have z1 := f1 vs (sqT q1)
  have z2 := f2 ws (sqT q2)
  rw [hv] at z1
  rw [hw] at z2
  cases z1
  cases z2
  exact .tup hT (.cons (rp.ext x) (.cons (rq.ext x) .nil))
theorem enum_get : ∀ {xs : List D} {n k : Nat} {d : D}, (enumD n xs)[k]? = some d → ∃ x, xs[k]? = some x ∧ d = .tuple [.int ((n + k : Nat) : Int), x]
  | [], _, _, _, h => by simp [enumD] at h
  | x :: xs, n, 0, d, h => by
    simp [enumD] at h
    exact ⟨x, rfl, by rw [← h]; simp⟩
  | x :: xs, n, k + 1, d, h => by
    obtain ⟨a, h1, h3⟩ := enum_get (xs := xs) (n := n + 1) (k := k) (d := d) (by simpa [enumD] using h)
    refine ⟨a, by simpa using h1, ?_⟩
    rw [h3, show n + 1 + k = n + (k + 1) by omega]
theorem enum_length : ∀ (xs : List D) (n : Nat), (enumD n xs).length = xs.length
  | [], _ => rfl
  | x :: xs, n => by simp [enumD, enum_length xs (n + 1)]
theorem goes_enumL {a : Addr} {vs : List V} {xs : List D} (r1 : Rd G a (.lst vs)) (h1 : RpAll G vs xs) : Goes (Ite K a) (enumD 0 xs) G := fun G2 H2 x s k => by
  have q1 : Rd H2 a (.lst vs) := rd_same s (x.ls a vs r1)
  refine ⟨fun d hd => ?_, fun hn => ⟨vs, sqL q1, by have := get_none hn; rw [enum_length] at this; rw [h1.length]; exact this⟩⟩
  obtain ⟨d1, e1, rfl⟩ := enum_get hd
  obtain ⟨v, hv, rp⟩ := h1.get e1
  refine ⟨⟨vs, v, sqL q1, hv⟩, fun y H3 hy => ?_⟩
  obtain ⟨T, y1, rfl, hT, rfl, f1⟩ := hy
  have z1 := f1 vs (sqL q1)
  rw [hv] at z1
  cases z1
  rw [show (0 + k : Nat) = k by omega]
  exact .tup hT (.cons (.int _) (.cons (rp.ext x) .nil))
end
def tIt (W : Wx) (it : It) : TI := fun σ H R => ∃ g env G, Er g env G σ H ∧ After W g G σ (it.ev env) fun ds e G' H' => ∀ J, Goes J ds G' → R J H'
section
variable {W : Wx}
/-- the keys of a dict: it is locked, or is locked now -/
def WalkD (R : L2.It → Hp → Prop) (x : V) (H : Hp) : Prop := ∃ d, x = .ref d ∧ ((∃ o kvs, H d = some (.frz o (.dK kvs)) ∧ R (Itk d o kvs) H) ∨ (∃ o kvs, H d = some (.frz o (.dT kvs)) ∧ R (Itkt d o kvs) H) ∨ (∃ kvs, H d = some (.dK kvs) ∧ ∀ o, R (Itk d o kvs) (upd H d (.frz o (.dK kvs)))) ∨ ∃ kvs, H d = some (.dT kvs) ∧ ∀ o, R (Itkt d o kvs) (upd H d (.frz o (.dT kvs))))
theorem walkD_iter {X : Cx} {tg : Expr} {pins : List (Addr × Obj)} {σ : L2.St} {H : Hp} {s : Shared} {R : L2.It → Hp → Prop} {x : V} {u : Value} (I : Inv X pins σ H s) (rx : RelV x u) (h : WalkD R x H) : wpAny (model X.prog X.w) X.A (pyIter u) (PIE X pins σ tg R) X.xe s := by
  obtain ⟨d, rfl, h⟩ := h
  obtain rfl : u = Value.ref d := rx
  have goK : ∀ {H : Hp} {o : Obj} {kvs : List (Key × V)}, Inv X pins σ H s → H d = some (.frz o (.dK kvs)) → R (Itk d o kvs) H → wpAny (model X.prog X.w) X.A (pyIter (.ref d)) (PIE X pins σ tg R) X.xe s := fun I hd q => by
    obtain ⟨hs, hgd, hx, es, ep, vs, hdt, hsz, kv, hm⟩ := I.frzK hd
    refine iter_keys hs hgd hx hdt (pi_one (tk := s.toks) I _ (turn_keys _ hdt) ⟨_, Heap.get?_push_size _ rfl, rfl, ?_⟩ q)
    rw [hsz] <;> rfl
  have goT : ∀ {H : Hp} {o : Obj} {kvs : List (List Key × V)}, Inv X pins σ H s → H d = some (.frz o (.dT kvs)) → R (Itkt d o kvs) H → wpAny (model X.prog X.w) X.A (pyIter (.ref d)) (PIE X pins σ tg R) X.xe s := fun I hd q => by
    obtain ⟨hs, hgd, hx, es, ep, hdt, hsz, ent⟩ := I.frzT hd
    refine iter_keys hs hgd hx hdt (pi_one (tk := s.toks) I _ (turn_keysT _ hdt) ⟨_, Heap.get?_push_size _ rfl, rfl, ?_⟩ q)
    rw [hsz] <;> rfl
  rcases h with ⟨o, kvs, hd, q⟩ | ⟨o, kvs, hd, q⟩ | ⟨kvs, hd, q⟩ | ⟨kvs, hd, q⟩
  · exact goK I hd q
  · exact goT I hd q
  · obtain ⟨od, I2⟩ := I.lock hd trivial
    exact goK I2 upd_same (q od)
  · obtain ⟨od, I2⟩ := I.lock hd trivial
    exact goT I2 upd_same (q od)
/-- a value that is walked: a list, a tuple, a text, a dict -/
def iAny (K : PySem.W.Frag) (tl : TE) : TI := fun σ H R => tl σ H fun x H1 => (∃ a xs, x = .ref a ∧ SqL K H1 a xs ∧ R (Itl K a) H1) ∨ (∃ a xs, x = .ref a ∧ SqT K H1 a xs ∧ R (Itt K a) H1) ∨ (∃ z, x = .str z ∧ R (Its z) H1) ∨ WalkD R x H1
theorem pi_any {X : Cx} {tg l : Expr} {tl : TE} (hl : PE X l tl) : PI X tg l (iAny X.K tl) := by
  refine ⟨fun pins s σ H R I h => ?_⟩
  refine thn (hl.run pins s σ H _ I h) fun v s1 ⟨x, H1, I1, r1, q1⟩ => ?_
  rcases q1 with ⟨a, xs, rfl, hq, q⟩ | ⟨a, xs, rfl, hq, q⟩ | ⟨z, rfl, q⟩ | q
  · cases r1
    obtain ⟨its, rv, p, hz⟩ := I1.list hq
    refine wpAny_pyIter_list p.isList ⟨s1.heap.objs.size, [s1.heap.objs.size], _, _, H1, rfl, I1.kept (t' := s1.toks) fun b o e => Heap.get?_push_of_some _ e, turn_list a _, ⟨_, Heap.get?_push_size _ rfl, rfl, rfl⟩, fun b hb => ?_, q⟩
    have e : b = s1.heap.objs.size := by simpa using hb
    rw [e]
    exact I1.fpOk (Nat.le_refl _) (I1.hok.fresh (Nat.le_refl _))
  · cases r1
    obtain ⟨its, rv, p, hz⟩ := I1.tuple hq
    refine wpAny_pyIter_tuple (show s1.heap.IsTuple a its.toArray from p) ⟨s1.heap.objs.size, [s1.heap.objs.size], _, _, H1, rfl, I1.kept (t' := s1.toks) fun b o e => Heap.get?_push_of_some _ e, turn_tuple a _, ⟨_, Heap.get?_push_size _ rfl, rfl, rfl⟩, fun b hb => ?_, q⟩
    have e : b = s1.heap.objs.size := by simpa using hb
    rw [e]
    exact I1.fpOk (Nat.le_refl _) (I1.hok.fresh (Nat.le_refl _))
  · obtain ⟨t, rfl⟩ := r1
    cases ha : z.cps.all (· < 128)
    · exact wpAny_pyIter_wide ha (pi_one (tk := s1.toks) I1 _ (turn_str _ z t "str_iterator" (.inr rfl)) ⟨_, Heap.get?_push_size _ rfl, rfl, rfl⟩ q)
    · exact wpAny_pyIter_ascii ha (pi_one (tk := s1.toks) I1 _ (turn_str _ z t "str_ascii_iterator" (.inl rfl)) ⟨_, Heap.get?_push_size _ rfl, rfl, rfl⟩ q)
  · exact walkD_iter I1 r1 q
theorem rp_key (G : Hp) (k : Key) : Rp G (kV k) (kD k) := by
  rcases k with i | x
  · exact .int i
  · exact .str x
theorem rpK_get {G : Hp} : ∀ {kvs : List (Key × V)} {ds : List (D × D)} {i : Nat} {d : D}, RpK G kvs ds → (ds.map (·.1))[i]? = some d → ∃ k v, kvs[i]? = some (k, v) ∧ d = kD k
  | _, _, _, _, .nil, e => by simp at e
  | _, _, 0, d, .cons h r, e => by simp at e; subst e; exact ⟨_, _, rfl, rfl⟩
  | _, _, i + 1, d, .cons h r, e => by
    obtain ⟨k, v, h1, h2⟩ := rpK_get (i := i) (d := d) r (by simpa using e)
    exact ⟨k, v, by simpa using h1, h2⟩
theorem rpK_len {G : Hp} : ∀ {kvs : List (Key × V)} {ds : List (D × D)}, RpK G kvs ds → kvs.length = ds.length
  | _, _, .nil => rfl
  | _, _, .cons _ r => by rw [List.length_cons, List.length_cons, rpK_len r]
theorem rpT_get {G : Hp} : ∀ {kvs : List (List Key × V)} {ds : List (D × D)} {i : Nat} {d : D}, RpT G kvs ds → (ds.map (·.1))[i]? = some d → ∃ k v, kvs[i]? = some (k, v) ∧ d = .tuple (k.map kD)
  | _, _, _, _, .nil, e => by simp at e
  | _, _, 0, d, .cons h r, e => by simp at e; subst e; exact ⟨_, _, rfl, rfl⟩
  | _, _, i + 1, d, .cons h r, e => by
    obtain ⟨k, v, h1, h2⟩ := rpT_get (i := i) (d := d) r (by simpa using e)
    exact ⟨k, v, by simpa using h1, h2⟩
theorem rpT_len {G : Hp} : ∀ {kvs : List (List Key × V)} {ds : List (D × D)}, RpT G kvs ds → kvs.length = ds.length
  | _, _, .nil => rfl
  | _, _, .cons _ r => by rw [List.length_cons, List.length_cons, rpT_len r]
theorem goes_keysK {G : Hp} {a : Addr} {o : Obj} {kvs : List (Key × V)} {ds : List (D × D)} (r : G a = some (.frz o (.dK kvs))) (h : RpK G kvs ds) : Goes (Itk a o kvs) (ds.map (·.1)) G := fun G2 H2 x s k => by
  have r2 : H2 a = some (.frz o (.dK kvs)) := s _ _ (x.fz _ _ _ r)
  refine ⟨fun d hd => ?_, fun hn => ⟨r2, by have := get_none hn; rw [List.length_map] at this; rw [rpK_len h]; exact this⟩⟩
  obtain ⟨q, v, h1, rfl⟩ := rpK_get h hd
  refine ⟨⟨r2, get_lt h1⟩, fun y H3 hy => ?_⟩
  obtain ⟨rfl, q', v', h2, rfl⟩ := hy
  rw [h1] at h2
  cases h2
  exact .old (rp_key G2 q)
theorem goes_keysT {G : Hp} {a : Addr} {o : Obj} {kvs : List (List Key × V)} {ds : List (D × D)} (r : G a = some (.frz o (.dT kvs))) (h : RpT G kvs ds) : Goes (Itkt a o kvs) (ds.map (·.1)) G := fun G2 H2 x s k => by
  have r2 : H2 a = some (.frz o (.dT kvs)) := s _ _ (x.fz _ _ _ r)
  refine ⟨fun d hd => ?_, fun hn => ⟨r2, by have := get_none hn; rw [List.length_map] at this; rw [rpT_len h]; exact this⟩⟩
  obtain ⟨q, v, h1, rfl⟩ := rpT_get h hd
  refine ⟨⟨r2, get_lt h1⟩, fun y H3 hy => ?_⟩
  obtain ⟨rfl, q', v', b, h2, rfl, hb⟩ := hy
  rw [h1] at h2
  cases h2
  cases gb : G2 b with
  | none =>
    refine .seen (G1 := upd G2 b (.tup (q.map kV))) ⟨same_upd gb, fun c u hc => ?_⟩ (.tup upd_same (rp_keys _ q))
    by_cases e : c = b
    · subst e
      rw [upd_same] at hc
      cases hc
      exact .inr ⟨gb, ⟨_, rfl⟩, hb⟩
    · rw [upd_ne e] at hc
      exact .inl hc
  | some u =>
    have := s _ _ gb
    rw [hb] at this
    cases this
    exact .old (.tup gb (rp_keys _ q))
theorem i_val {K : PySem.W.Frag} {m : X} (σ : L2.St) (H : Hp) (R : L2.It → Hp → Prop) (h : tIt W (.val m) σ H R) : iAny K (tX W m) σ H R := by
  obtain ⟨g, env, G, er, h⟩ := h
  refine ⟨g, env, G, er, ?_⟩
  simp only [It.ev] at h
  refine h.split.mono fun r e G' H' x er' h v hv => ?_
  obtain ⟨G1, x1, er1, rp⟩ := er'.cold hv
  obtain ⟨d, fr⟩ := r
  simp only at rp h
  cases rp with
  | lst ra ha => exact .inl ⟨_, _, rfl, sqL (rd_same er1.gH ra), h G1 H' x1 er1 _ (goes_list ra ha)⟩
  | tup ra ha => exact .inr (.inl ⟨_, _, rfl, sqT (er1.gH _ _ ra), h G1 H' x1 er1 _ (goes_tuple ra ha)⟩)
  | str z => exact .inr (.inr (.inl ⟨_, rfl, h G1 H' x1 er1 _ goes_str⟩))
  | non => exact h.elim
  | bl b => exact h.elim
  | int b => exact h.elim
  | @dk a kvs ds ra ha =>
    have hne : kvs ≠ [] := by
      rintro rfl
      cases ha
      exact h.elim
    have hw : walked (.dict ds) = some (ds.map (·.1)) := by
      cases ds with
      | nil => have := rpK_len ha; exact absurd (List.length_eq_zero_iff.mp this) hne
      | cons p ds => rfl
    simp only [hw, ofO] at h
    refine .inr (.inr (.inr ⟨a, rfl, ?_⟩))
    rcases ra with ra | ⟨_, o, ra⟩
    · refine .inr (.inr (.inl ⟨kvs, er1.gH _ _ ra, fun o => ?_⟩))
      have x2 := ext_lock (o := o) ra (.inl ⟨kvs, rfl, hne⟩)
      exact h _ _ (x1.trans x2) (er1.lock ra (.inl ⟨kvs, rfl, hne⟩)) _ (goes_keysK upd_same (ha.ext x2))
    · exact .inl ⟨o, kvs, er1.gH _ _ ra, h G1 H' x1 er1 _ (goes_keysK ra ha)⟩
  | @dt a kvs ds ra ha =>
    have hne : kvs ≠ [] := by
      rintro rfl
      cases ha
      exact h.elim
    have hw : walked (.dict ds) = some (ds.map (·.1)) := by
      cases ds with
      | nil => have := rpT_len ha; exact absurd (List.length_eq_zero_iff.mp this) hne
      | cons p ds => rfl
    simp only [hw, ofO] at h
    refine .inr (.inr (.inr ⟨a, rfl, ?_⟩))
    rcases ra with ra | ⟨_, o, ra⟩
    · refine .inr (.inr (.inr ⟨kvs, er1.gH _ _ ra, fun o => ?_⟩))
      have x2 := ext_lock (o := o) ra (.inr ⟨kvs, rfl, hne⟩)
      exact h _ _ (x1.trans x2) (er1.lock ra (.inr ⟨kvs, rfl, hne⟩)) _ (goes_keysT upd_same (ha.ext x2))
    · exact .inr (.inl ⟨o, kvs, er1.gH _ _ ra, h G1 H' x1 er1 _ (goes_keysT ra ha)⟩)
end
end G6

namespace G6
open PySem PySem.Spec L2
/-- nothing is raised -/
abbrev wF : Wx := fun _ _ _ => False
theorem After.calm {α : Type} {W : Wx} {g : Gh} {G : Hp} {σ : L2.St} {r : Re α} {P : α → En → Hp → Hp → Prop} (h : After W g G σ r.calm P) : After wF g G σ r P := by
  cases r with
  | ok a e => exact h
  | exc c e => exact h.elim
  | bad => exact h
theorem wipe_wipe (σ : L2.St) (vs : List Nat) : wipe (wipe σ vs) vs = wipe σ vs := by
  refine List.ext_getElem? fun j => ?_
  rw [wipe_get, wipe_length, wipe_get]
  by_cases h : j ∈ vs ∧ j < σ.length
  · simp [h]
  · simp [h]
/-- a new object that the block makes -/
def gB (g : Gh) (L : Addr) (o : HO) (h : ∀ ys, o ≠ .tup ys) : Gh where
  F := upd g.F L o
  io := []
  fT := fun a ys e => by
    by_cases ha : a = L
    · subst ha
      rw [upd_same] at e
      exact h ys (Option.some.inj e)
    · rw [upd_ne ha] at e
      exact g.fT a ys e
section
variable {g : Gh} {G H : Hp} {σ : L2.St} {L : Addr}
theorem Er.block {e : En} {own : List Nat} {o : HO} {ho : ∀ ys, o ≠ .tup ys} (er : Er g e G σ H) (hD : H L = none) : Er (gB g L o ho) (wipeE e own) G (wipe σ own) (upd H L o) := by
  have nG := er.noG hD
  have nS := er.noSlot hD
  have er1 : Er (gB g L o ho) e G σ (upd H L o) := by
    have er0 := er.alloc (o := o) hD
    refine ⟨er0.gH, fun a x h => ?_, er0.len, fun i b d h => ?_, er0.dj, fun p hp => by cases hp⟩
    · have h : upd g.F L o a = some x := h
      by_cases ha : a = L
      · subst ha
        rw [upd_same] at h
        rw [upd_same]
        exact ⟨h, nG⟩
      · rw [upd_ne ha] at h
        exact er0.fH a x h
    · obtain ⟨v, h1, h2, h3⟩ := er0.sl i b d h
      refine ⟨v, h1, h2, fun hb => ?_⟩
      obtain ⟨a, rfl, ow, hf⟩ := h3 hb
      subst hb
      refine ⟨a, rfl, ow, ?_⟩
      show upd g.F L o a = none
      rw [upd_ne (fun z => nS i d h (by rw [h1, z]))]
      exact hf
  refine er1.forget (by rw [wipeE_length, wipe_length]; exact er.len) (fun i s hi => ?_) (fun p hp => by cases hp)
  rw [wipeE_get] at hi
  split at hi
  · cases hi
  · rename_i hn
    refine ⟨hi, ?_⟩
    rw [wipe_get, if_neg (by rw [← er.len]; exact hn)]
/-- the block's new object is changed -/
theorem Er.reblock {e : En} {o o' : HO} {ho : ∀ ys, o ≠ .tup ys} {ho' : ∀ ys, o' ≠ .tup ys} (er : Er (gB g L o ho) e G σ H) : Er (gB g L o' ho') e G σ (upd H L o') := by
  have atD := er.fH L o (show upd g.F L o L = some o from upd_same)
  refine ⟨fun a x h => ?_, fun a x h => ?_, er.len, fun i b d h => ?_, er.dj, fun p hp => by cases hp⟩
  · rw [upd_ne (ne_of_none h atD.2)]
    exact er.gH a x h
  · have h : upd g.F L o' a = some x := h
    by_cases ha : a = L
    · subst ha
      rw [upd_same] at h
      rw [upd_same]
      exact ⟨h, atD.2⟩
    · rw [upd_ne ha] at h
      rw [upd_ne ha]
      exact er.fH a x (show upd g.F L o a = some x by rw [upd_ne ha]; exact h)
  · obtain ⟨v, h1, h2, h3⟩ := er.sl i b d h
    refine ⟨v, h1, h2, fun hb => ?_⟩
    obtain ⟨a, rfl, ⟨n, x, hx, c⟩, hf⟩ := h3 hb
    have hf : upd g.F L o a = none := hf
    have ha : a ≠ L := fun z => by rw [z, upd_same] at hf; cases hf
    refine ⟨a, rfl, ⟨n, x, by rw [upd_ne ha]; exact hx, c⟩, ?_⟩
    show upd g.F L o' a = none
    rw [upd_ne ha] at hf ⊢
    exact hf
/-- the block's own slots are forgotten -/
theorem Er.wiped {e : En} {own : List Nat} {τ : L2.St} {o : HO} {ho : ∀ ys, o ≠ .tup ys} (er : Er (gB g L o ho) e G τ H) (hw : wipe τ own = wipe σ own) : Er (gB g L o ho) (wipeE e own) G (wipe σ own) H := by
  rw [← hw]
  refine er.forget (by rw [wipeE_length, wipe_length]; exact er.len) (fun i s hi => ?_) (fun p hp => by cases hp)
  rw [wipeE_get] at hi
  split at hi
  · cases hi
  · rename_i hn
    refine ⟨hi, ?_⟩
    rw [wipe_get, if_neg (by rw [← er.len]; exact hn)]
/-- behind the block -/
theorem Er.unblock {e1 e : En} {G1 H1 : Hp} {own : List Nat} {o : HO} {ho : ∀ ys, o ≠ .tup ys} (er1 : Er g e1 G1 σ H1) (hD : H1 L = none) (x : Ext G1 G) (er : Er (gB g L o ho) e G (wipe σ own) H) (hz : own.all (frozenAt e1) = true) :
    Er g (backE e1 e own) G σ H ∧ H L = some o ∧ G L = none ∧ g.F L = none ∧ NotSlot (backE e1 e own) σ L := by
  have atD := er.fH L o (show upd g.F L o L = some o from upd_same)
  have nF := er1.noF hD
  have hl : e.length = σ.length := by rw [er.len, wipe_length]
  have look : ∀ (i : Nat) (s : Bool × D), (backE e1 e own)[i]? = some (some s) → (i ∈ own ∧ e1[i]? = some (some s) ∧ s.1 = false) ∨ (i ∉ own ∧ e[i]? = some (some s)) := fun i s hi => by
    rw [backE_get] at hi
    split at hi
    · rename_i hc
      refine .inl ⟨hc.1, ?_⟩
      cases q : e1[i]? with
      | none => rw [q] at hi; cases hi
      | some t =>
        rw [q] at hi
        simp only [Option.getD_some, Option.some.injEq] at hi
        subst hi
        refine ⟨rfl, ?_⟩
        have hf := List.all_eq_true.mp hz i hc.1
        simp only [frozenAt, q] at hf
        obtain ⟨b, d⟩ := s
        cases b with
        | false => rfl
        | true => cases hf
    · rename_i hc
      refine .inr ⟨fun hm => hc ⟨hm, get_lt hi⟩, hi⟩
  have out : ∀ i, i ∉ own → (wipe σ own)[i]? = σ[i]? := fun i hi => by rw [wipe_get, if_neg (fun z => hi z.1)]
  have sl : ∀ (i : Nat) (b : Bool) (d : D), (backE e1 e own)[i]? = some (some (b, d)) → ∃ v, σ[i]? = some (some v) ∧ (b = false → Rp G v d) ∧ (b = true → ∃ a, v = .ref a ∧ Ow G H a d ∧ g.F a = none ∧ a ≠ L) := fun i b d hi => by
    rcases look i _ hi with ⟨hm, q, hb⟩ | ⟨hm, q⟩
    · obtain ⟨v, z1, z2, _⟩ := er1.sl i b d q
      refine ⟨v, z1, fun hb => (z2 hb).ext x, fun hb2 => ?_⟩
      simp only at hb
      rw [hb2] at hb
      cases hb
    · obtain ⟨v, z1, z2, z3⟩ := er.sl i b d q
      rw [out i hm] at z1
      refine ⟨v, z1, z2, fun hb => ?_⟩
      obtain ⟨a, rfl, ow, hf⟩ := z3 hb
      have hf : upd g.F L o a = none := hf
      have ha : a ≠ L := fun z => by rw [z, upd_same] at hf; cases hf
      rw [upd_ne ha] at hf
      exact ⟨a, rfl, ow, hf, ha⟩
  refine ⟨⟨er.gH, fun a y h => ?_, by rw [backE_length]; exact hl, fun i b d hi => ?_, fun i j d d' v hi hj s1 s2 => ?_, er1.io⟩, atD.1, atD.2, nF, fun i d hi hs => ?_⟩
  · exact er.fH a y (show upd g.F L o a = some y by rw [upd_ne (ne_of_none h nF)]; exact h)
  · obtain ⟨v, z1, z2, z3⟩ := sl i b d hi
    refine ⟨v, z1, z2, fun hb => ?_⟩
    obtain ⟨a, r1, r2, r3, _⟩ := z3 hb
    exact ⟨a, r1, r2, r3⟩
  · rcases look i _ hi with ⟨_, _, hb⟩ | ⟨hm, q⟩
    · cases hb
    · rcases look j _ hj with ⟨_, _, hb⟩ | ⟨hm2, q2⟩
      · cases hb
      · exact er.dj i j d d' v q q2 (by rw [out i hm]; exact s1) (by rw [out j hm2]; exact s2)
  · obtain ⟨v, z1, _, z3⟩ := sl i true d hi
    obtain ⟨a, rfl, _, _, ha⟩ := z3 rfl
    rw [hs] at z1
    cases z1
    exact ha rfl
end
theorem lst_ne (xs : List V) : ∀ ys, HO.lst xs ≠ .tup ys := fun _ h => by cases h
theorem dk_ne (xs : List (Key × V)) : ∀ ys, HO.dK xs ≠ .tup ys := fun _ h => by cases h
section
variable {W : Wx} {K : PySem.W.Frag}
end
end G6

namespace G6
open PySem PySem.Spec L2
section
variable {W : Wx} {K : PySem.W.Frag}
theorem wF_W {α : Type} {g : Gh} {G : Hp} {σ : L2.St} {r : Re α} {P : α → En → Hp → Hp → Prop} (h : After wF g G σ r P) : After W g G σ r P := by
  cases r with
  | ok a e => exact h
  | exc c e => exact fun G' H' x er => (h G' H' x er).elim
  | bad => exact h
/-- what is asked of a turn's result: it is a result, and from there it goes on -/
def Cont (own : List Nat) (tg : Tg) (ts : List T) (elt : X) (ds : List D) (acc : List D) (e : En) (k : Re (List D) → Prop) : Prop := k (lcGo own tg ts elt ds acc e)
theorem Re.bind_assoc {α β γ : Type} (r : Re α) (f : α → En → Re β) (h : β → En → Re γ) : (r.bind f).bind h = r.bind fun a e => (f a e).bind h := by cases r <;> rfl
/-- the turns of [elt for tg in .. if ts], within a block whose new list is at L -/
theorem lc_loop {g : Gh} {L : Addr} {σ : L2.St} {own : List Nat} {tg : Tg} {ts : List T} {elt : X} {ds : List D} {J : L2.It} {G1 : Hp} {Qd : Hp → Prop} {H0 : Hp} {k : List D → En → Prop}
    (hs : ∀ i ∈ tg.slots, i ∈ own) (goes : Goes J ds G1)
    (fin : ∀ (G H : Hp) (e : En) (acc : List V) (accD : List D), Ext G1 G → Er (gB g L (.lst acc) (lst_ne acc)) e G (wipe σ own) H → RpAll G acc accD → k accD e → Qd H)
    (start : ∃ (G : Hp) (e : En) (acc : List V) (accD : List D), Ext G1 G ∧ Er (gB g L (.lst acc) (lst_ne acc)) e G (wipe σ own) H0 ∧ RpAll G acc accD ∧ (match lcGo own tg ts elt ds accD e with
      | .ok a e2 => k a e2
      | _ => False)) :
    ∃ Wv : Nat → Nat → Hp → Prop, (∃ m, Wv 0 m H0) ∧ ∀ i m H, Wv i m H →
      (J.stop i H ∧ Qd H) ∨ (J.go i H ∧ ∃ Nx : Hp → Prop, (∀ H', Nx H' → ∃ m', m' < m ∧ Wv (i + 1) m' H') ∧ ∀ x H', J.yld i H x H' → gTg K tg x (wipe σ own) H' fun σ2 H2 => wipe σ2 own = wipe σ own ∧ tTe wF (allT ts) σ2 H2 fun b H3 =>
        if b = true then tX wF elt σ2 H3 fun y H4 => ∃ acc, H4 L = some (.lst acc) ∧ acc.length < sizeLine ∧ Nx (upd H4 L (.lst (acc ++ [y]))) else Nx H3) := by
  refine ⟨fun i m H => m = ds.length - i ∧ i ≤ ds.length ∧ ∃ (G : Hp) (e : En) (acc : List V) (accD : List D), Ext G1 G ∧ Er (gB g L (.lst acc) (lst_ne acc)) e G (wipe σ own) H ∧ RpAll G acc accD ∧ (match lcGo own tg ts elt (ds.drop i) accD e with
      | .ok a e2 => k a e2
      | _ => False), ⟨ds.length, by simp, Nat.zero_le _, by simpa using start⟩, ?_⟩
  rintro i m H ⟨rfl, hi, G, e, acc, accD, x1, er, ra, hk⟩
  obtain ⟨g1, g2⟩ := goes G H x1 er.gH i
  by_cases hlt : i < ds.length
  · have hd : ds[i]? = some ds[i] := List.getElem?_eq_getElem hlt
    obtain ⟨go, yl⟩ := g1 _ hd
    refine .inr ⟨go, fun H' => ∃ (G : Hp) (e : En) (acc : List V) (accD : List D), Ext G1 G ∧ Er (gB g L (.lst acc) (lst_ne acc)) e G (wipe σ own) H' ∧ RpAll G acc accD ∧ (match lcGo own tg ts elt (ds.drop (i + 1)) accD e with
      | .ok a e2 => k a e2
      | _ => False), fun H' h => ⟨ds.length - (i + 1), by omega, rfl, hlt, h⟩, fun x H' hy => ?_⟩
    have o := yl x H' hy
    rw [List.drop_eq_getElem_cons hlt] at hk
    simp only [lcGo, lcTurn] at hk
    obtain ⟨G2, x2, er2, vr⟩ := er.out o
    have rp : Rp G2 x ds[i] := by
      rcases vr with ⟨_, rp⟩ | ⟨z, _⟩
      · exact rp
      · cases z
    cases q : tg.put ds[i] e with
    | none => simp only [q, Re.bind_bad] at hk
    | some e1 =>
      simp only [q] at hk
      refine put_ok tg er2 rp q (fun p hp => by cases hp) fun τ er3 off => ?_
      have hw : wipe τ own = wipe σ own := by rw [wipe_off off hs, wipe_wipe]
      refine ⟨hw, gB g L (.lst acc) (lst_ne acc), e1, G2, er3, ?_⟩
      cases qt : allT ts e1 with
      | bad => simp only [qt, Re.bind_bad, Re.calm] at hk
      | exc c e2 => simp only [qt, Re.bind_exc, Re.calm] at hk; exact hk.elim
      | ok b e2 =>
        simp only [qt, Re.bind_ok] at hk
        intro G3 H3 x3 er4
        cases b with
        | false =>
          simp only [Bool.false_eq_true, if_false, Re.calm, Re.bind_ok] at hk ⊢
          exact ⟨G3, _, acc, accD, x1.trans (x2.trans x3), er4.wiped hw, ra.ext (x2.trans x3), hk⟩
        | true =>
          simp only [if_true] at hk ⊢
          refine ⟨_, e2, G3, er4, ?_⟩
          cases qe : elt e2 with
          | bad => simp only [qe, Re.bind_bad, Re.calm] at hk
          | exc c e3 => simp only [qe, Re.bind_exc, Re.calm] at hk; exact hk.elim
          | ok r e3 =>
            simp only [qe, Re.bind_ok] at hk
            intro G4 H4 x4 er5 y hy2
            obtain ⟨G5, x5, er6, ry⟩ := er5.cold hy2
            have atL := er6.fH L (.lst acc) (show upd g.F L (.lst acc) L = some (.lst acc) from upd_same)
            have ra5 : RpAll G5 acc accD := ra.ext (x2.trans (x3.trans (x4.trans x5)))
            by_cases hz : accD.length < sizeLine
            · simp only [hz, if_true, Re.calm, Re.bind_ok] at hk
              refine ⟨acc, atL.1, by rw [ra5.length]; exact hz, G5, _, acc ++ [y], accD ++ [r.1], x1.trans (x2.trans (x3.trans (x4.trans x5))), (Er.reblock er6).wiped hw, ra5.append (.cons ry .nil), hk⟩
            · simp only [hz, if_false, Re.calm, Re.bind_bad] at hk
  · have e0 : ds.drop i = [] := List.drop_eq_nil_of_le (by omega)
    rw [e0] at hk
    simp only [lcGo] at hk
    exact .inl ⟨g2 (List.getElem?_eq_none (by omega)), fin G H e acc accD x1 er ra hk⟩
theorem l_lc {own : List Nat} {it : It} {tg : Tg} {ts : List T} {elt : X} (hs : ∀ i ∈ tg.slots, i ∈ own) (σ : L2.St) (H : Hp) (Q : VK) (h : tX W (xLc own it tg ts elt) σ H Q) : tLc (tIt W it) (gTg K tg) (tTe wF (allT ts)) (tX wF elt) own σ H Q := by
  obtain ⟨g, env, G, er, h⟩ := h
  refine ⟨g, env, G, er, ?_⟩
  unfold xLc at h
  refine h.split.mono fun ds e1 G1 H1 x1 er1 h J goes L hL => ?_
  split at h
  · rename_i hz
    cases q : lcGo own tg ts elt ds [] (wipeE e1 own) with
    | bad => rw [q] at h; exact h.elim
    | exc c e2 =>
      exfalso
      have no : ∀ (ds : List D) (acc : List D) (e : En) (c : Str) (e2 : En), lcGo own tg ts elt ds acc e ≠ .exc c e2 := by
        intro ds
        induction ds with
        | nil => intro acc e c e2 z; cases z
        | cons d r ih =>
          intro acc e c e2 z
          simp only [lcGo] at z
          cases qq : lcTurn own tg ts elt d acc e with
          | ok a e3 => rw [qq] at z; exact ih _ _ _ _ z
          | bad => rw [qq] at z; cases z
          | exc c3 e3 =>
            unfold lcTurn at qq
            split at qq
            · cases qq
            · revert qq
              generalize ((allT ts _).bind _) = rr
              intro qq
              cases rr <;> cases qq
      exact no _ _ _ _ _ q
    | ok acc0 e0 =>
      rw [q] at h
      simp only [Re.bind_ok] at h
      refine lc_loop (G1 := G1) (g := g) (k := fun a e2 => a = acc0 ∧ e2 = e0) hs goes (fun G2 H2 e acc accD x2 er2 ra hk => ?_) ⟨G1, wipeE e1 own, [], [], .refl G1, er1.block hL, .nil, by rw [q]; exact ⟨rfl, rfl⟩⟩
      obtain ⟨rfl, rfl⟩ := hk
      obtain ⟨er3, a1, a2, a3, a4⟩ := er1.unblock hL x2 er2 hz
      exact h G2 H2 x2 er3 _ (.inr ⟨rfl, L, rfl, ⟨a2, _, a1, .lst ra⟩, a3, a4⟩)
  · exact h.elim
end
end G6

namespace G6
open PySem PySem.Spec L2
theorem lcGo_exc {own : List Nat} {tg : Tg} {ts : List T} {elt : X} : ∀ (ds : List D) (acc : List D) (e : En) (c : Str) (e2 : En), lcGo own tg ts elt ds acc e ≠ .exc c e2 := by
  intro ds
  induction ds with
  | nil => intro acc e c e2 z; cases z
  | cons d r ih =>
    intro acc e c e2 z
    simp only [lcGo] at z
    cases qq : lcTurn own tg ts elt d acc e with
    | ok a e3 => rw [qq] at z; exact ih _ _ _ _ z
    | bad => rw [qq] at z; cases z
    | exc c3 e3 =>
      unfold lcTurn at qq
      split at qq
      · cases qq
      · revert qq
        generalize ((allT ts _).bind _) = rr
        intro qq
        cases rr <;> cases qq
theorem wipe_sub {σ : L2.St} {a b : List Nat} (h : ∀ i ∈ a, i ∈ b) : wipe (wipe σ a) b = wipe σ b := by
  refine List.ext_getElem? fun j => ?_
  rw [wipe_get, wipe_length, wipe_get, wipe_get]
  by_cases hb : j ∈ b ∧ j < σ.length
  · simp [hb]
  · simp only [hb, if_false]
    rw [if_neg (fun z => hb ⟨h j z.1, z.2⟩)]
section
variable {W : Wx} {K : PySem.W.Frag}
theorem l_lc2 {own own2 : List Nat} {it it2 : It} {tg tg2 : Tg} {ts : List T} {elt : X} (hs : ∀ i ∈ tg.slots, i ∈ own) (hs2 : ∀ i ∈ tg2.slots, i ∈ own2) (ho : ∀ i ∈ own2, i ∈ own) (σ : L2.St) (H : Hp) (Q : VK) (h : tX W (xLc2 own it tg own2 it2 tg2 ts elt) σ H Q) :
    tLc2 (tIt W it) (gTg K tg) tYes (tIt wF it2) (gTg K tg2) (tTe wF (allT ts)) (tX wF elt) own own2 σ H Q := by
  obtain ⟨g, env, G, er, h⟩ := h
  refine ⟨g, env, G, er, ?_⟩
  unfold xLc2 at h
  refine h.split.mono fun ds e1 G1 H1 x1 er1 h J goes L hL => ?_
  split at h
  · rename_i hz
    have key : ∃ acc0 e0, lc2Go own tg own2 it2 tg2 ts elt ds [] (wipeE e1 own) = .ok acc0 e0 := by
      cases q : lc2Go own tg own2 it2 tg2 ts elt ds [] (wipeE e1 own) with
      | bad => rw [q] at h; exact h.elim
      | ok a b => exact ⟨a, b, rfl⟩
      | exc c e2 =>
        exfalso
        have no : ∀ (ds : List D) (acc : List D) (e : En) (c : Str) (e2 : En), lc2Go own tg own2 it2 tg2 ts elt ds acc e ≠ .exc c e2 := by
          intro ds
          induction ds with
          | nil => intro acc e c e2 z; cases z
          | cons d r ih =>
            intro acc e c e2 z
            simp only [lc2Go] at z
            split at z
            · cases z
            · rename_i ee _
              cases q1 : (it2.ev ee).calm with
              | bad => rw [q1] at z; cases z
              | exc c3 e3 => cases q2 : it2.ev ee <;> rw [q2] at q1 <;> cases q1
              | ok xs e3 =>
                rw [q1] at z
                simp only [Re.bind_ok] at z
                cases q2 : lcGo own2 tg2 ts elt xs acc (wipeE e3 own2) with
                | bad => rw [q2] at z; cases z
                | exc c4 e4 => exact lcGo_exc _ _ _ _ _ q2
                | ok a4 e4 => rw [q2] at z; exact ih _ _ _ _ z
        exact no _ _ _ _ _ q
    obtain ⟨acc0, e0, q⟩ := key
    rw [q] at h
    simp only [Re.bind_ok] at h
    refine ⟨fun i m H => m = ds.length - i ∧ i ≤ ds.length ∧ ∃ (G : Hp) (e : En) (acc : List V) (accD : List D), Ext G1 G ∧ Er (gB g L (.lst acc) (lst_ne acc)) e G (wipe σ own) H ∧ RpAll G acc accD ∧ lc2Go own tg own2 it2 tg2 ts elt (ds.drop i) accD e = .ok acc0 e0,
      ⟨ds.length, by simp, Nat.zero_le _, G1, wipeE e1 own, [], [], .refl G1, er1.block hL, .nil, by simpa using q⟩, ?_⟩
    rintro i m H ⟨rfl, hi, G2, e, acc, accD, x2, er2, ra, hk⟩
    obtain ⟨g1, g2⟩ := goes G2 H x2 er2.gH i
    by_cases hlt : i < ds.length
    · have hd : ds[i]? = some ds[i] := List.getElem?_eq_getElem hlt
      obtain ⟨go, yl⟩ := g1 _ hd
      refine .inr ⟨go, fun H' => ∃ (G : Hp) (e : En) (acc : List V) (accD : List D), Ext G1 G ∧ Er (gB g L (.lst acc) (lst_ne acc)) e G (wipe σ own) H' ∧ RpAll G acc accD ∧ lc2Go own tg own2 it2 tg2 ts elt (ds.drop (i + 1)) accD e = .ok acc0 e0, fun H' h => ⟨ds.length - (i + 1), by omega, rfl, hlt, h⟩, fun x H' hy => ?_⟩
      rw [List.drop_eq_getElem_cons hlt] at hk
      simp only [lc2Go] at hk
      obtain ⟨G3, x3, er3, vr⟩ := er2.out (yl x H' hy)
      have rp : Rp G3 x ds[i] := by
        rcases vr with ⟨_, rp⟩ | ⟨z, _⟩
        · exact rp
        · cases z
      cases qp : tg.put ds[i] e with
      | none => simp only [qp] at hk; cases hk
      | some e2 =>
        simp only [qp] at hk
        refine put_ok tg er3 rp qp (fun p hp => by cases hp) fun τ er4 off => ?_
        have hw : wipe τ own = wipe σ own := by rw [wipe_off off hs, wipe_wipe]
        refine ⟨hw, ?_⟩
        unfold tYes
        simp only [if_true]
        refine ⟨gB g L (.lst acc) (lst_ne acc), e2, G3, er4, ?_⟩
        cases qi : it2.ev e2 with
        | bad => simp only [qi, Re.calm, Re.bind_bad] at hk; cases hk
        | exc c e3 => simp only [qi, Re.calm, Re.bind_bad] at hk; cases hk
        | ok xs e3 =>
          simp only [qi, Re.calm, Re.bind_ok] at hk
          intro G4 H4 x4 er5 J1 goes1
          cases ql : lcGo own2 tg2 ts elt xs accD (wipeE e3 own2) with
          | bad => rw [ql] at hk; cases hk
          | exc c e4 => exact (lcGo_exc _ _ _ _ _ ql).elim
          | ok acc1 e4 =>
            rw [ql] at hk
            simp only [Re.bind_ok] at hk
            refine lc_loop (G1 := G4) (g := g) (σ := τ) (ds := xs) (J := J1) (elt := elt) (ts := ts) (k := fun a e2 => a = acc1 ∧ e2 = e4) hs2 goes1 (fun G5 H5 e5 acc5 accD5 x5 er6 ra5 hk5 => ?_) ⟨G4, wipeE e3 own2, acc, accD, .refl G4, er5.wiped rfl, ra.ext (x3.trans x4), by rw [ql]; exact ⟨rfl, rfl⟩⟩
            obtain ⟨rfl, rfl⟩ := hk5
            refine ⟨G5, wipeE e5 own, acc5, accD5, x2.trans (x3.trans (x4.trans x5)), er6.wiped ?_, ra5, hk⟩
            rw [wipe_sub ho, hw]
    · have e0' : ds.drop i = [] := List.drop_eq_nil_of_le (by omega)
      rw [e0'] at hk
      simp only [lc2Go] at hk
      cases hk
      obtain ⟨er3, a1, a2, a3, a4⟩ := er1.unblock hL x2 er2 hz
      exact .inl ⟨g2 (List.getElem?_eq_none (by omega)), h G2 H x2 er3 _ (.inr ⟨rfl, L, rfl, ⟨a2, _, a1, .lst ra⟩, a3, a4⟩)⟩
  · exact h.elim
theorem l_dc {own : List Nat} {it : It} {tg : Tg} {kx vx : X} (hs : ∀ i ∈ tg.slots, i ∈ own) (σ : L2.St) (H : Hp) (Q : VK) (h : tX W (xDc own it tg kx vx) σ H Q) : tDc (tIt W it) (gTg K tg) tYes (tX wF kx) (tX wF vx) own σ H Q := by
  obtain ⟨g, env, G, er, h⟩ := h
  refine ⟨g, env, G, er, ?_⟩
  unfold xDc at h
  refine h.split.mono fun ds e1 G1 H1 x1 er1 h J goes L hL => ?_
  split at h
  · rename_i hz
    have key : ∃ acc0 e0, dcGo own tg kx vx ds [] (wipeE e1 own) = .ok acc0 e0 := by
      cases q : dcGo own tg kx vx ds [] (wipeE e1 own) with
      | bad => rw [q] at h; exact h.elim
      | ok a b => exact ⟨a, b, rfl⟩
      | exc c e2 =>
        exfalso
        have no : ∀ (ds : List D) (acc : List (D × D)) (e : En) (c : Str) (e2 : En), dcGo own tg kx vx ds acc e ≠ .exc c e2 := by
          intro ds
          induction ds with
          | nil => intro acc e c e2 z; cases z
          | cons d r ih =>
            intro acc e c e2 z
            simp only [dcGo] at z
            cases qq : dcTurn own tg kx vx d acc e with
            | ok a e3 => rw [qq] at z; exact ih _ _ _ _ z
            | bad => rw [qq] at z; cases z
            | exc c3 e3 =>
              unfold dcTurn at qq
              split at qq
              · cases qq
              · revert qq
                generalize ((kx _).bind _) = rr
                intro qq
                cases rr <;> cases qq
        exact no _ _ _ _ _ q
    obtain ⟨acc0, e0, q⟩ := key
    rw [q] at h
    simp only [Re.bind_ok] at h
    refine ⟨fun i m H => m = ds.length - i ∧ i ≤ ds.length ∧ ∃ (G : Hp) (e : En) (acc : List (Key × V)) (accD : List (D × D)), Ext G1 G ∧ Er (gB g L (.dK acc) (dk_ne acc)) e G (wipe σ own) H ∧ RpK G acc accD ∧ dcGo own tg kx vx (ds.drop i) accD e = .ok acc0 e0,
      ⟨ds.length, by simp, Nat.zero_le _, G1, wipeE e1 own, [], [], .refl G1, er1.block hL, .nil, by simpa using q⟩, ?_⟩
    rintro i m H ⟨rfl, hi, G2, e, acc, accD, x2, er2, ra, hk⟩
    obtain ⟨g1, g2⟩ := goes G2 H x2 er2.gH i
    by_cases hlt : i < ds.length
    · have hd : ds[i]? = some ds[i] := List.getElem?_eq_getElem hlt
      obtain ⟨go, yl⟩ := g1 _ hd
      refine .inr ⟨go, fun H' => ∃ (G : Hp) (e : En) (acc : List (Key × V)) (accD : List (D × D)), Ext G1 G ∧ Er (gB g L (.dK acc) (dk_ne acc)) e G (wipe σ own) H' ∧ RpK G acc accD ∧ dcGo own tg kx vx (ds.drop (i + 1)) accD e = .ok acc0 e0, fun H' h => ⟨ds.length - (i + 1), by omega, rfl, hlt, h⟩, fun x H' hy => ?_⟩
      rw [List.drop_eq_getElem_cons hlt] at hk
      simp only [dcGo, dcTurn] at hk
      obtain ⟨G3, x3, er3, vr⟩ := er2.out (yl x H' hy)
      have rp : Rp G3 x ds[i] := by
        rcases vr with ⟨_, rp⟩ | ⟨z, _⟩
        · exact rp
        · cases z
      cases qp : tg.put ds[i] e with
      | none => simp only [qp] at hk; cases hk
      | some e2 =>
        simp only [qp] at hk
        refine put_ok tg er3 rp qp (fun p hp => by cases hp) fun τ er4 off => ?_
        have hw : wipe τ own = wipe σ own := by rw [wipe_off off hs, wipe_wipe]
        refine ⟨hw, ?_⟩
        unfold tYes
        simp only [if_true]
        refine ⟨gB g L (.dK acc) (dk_ne acc), e2, G3, er4, ?_⟩
        cases qk : kx e2 with
        | bad => simp only [qk, Re.calm, Re.bind_bad] at hk; cases hk
        | exc c e3 => simp only [qk, Re.calm, Re.bind_exc, Re.bind_bad] at hk; cases hk
        | ok r1 e3 =>
          simp only [qk, Re.bind_ok] at hk
          intro G4 H4 x4 er5 y hy4
          obtain ⟨G5, x5, er6, ry⟩ := er5.cold hy4
          refine ⟨gB g L (.dK acc) (dk_ne acc), e3, G5, er6, ?_⟩
          cases qv : vx e3 with
          | bad => simp only [qv, Re.calm, Re.bind_bad] at hk; cases hk
          | exc c e4 => simp only [qv, Re.calm, Re.bind_exc, Re.bind_bad] at hk; cases hk
          | ok r2 e4 =>
            simp only [qv, Re.bind_ok] at hk
            intro G6 H6 x6 er7 z hz6
            obtain ⟨G7, x7, er8, rz⟩ := er7.cold hz6
            split at hk
            · rename_i hc
              simp only [Bool.and_eq_true, decide_eq_true_eq] at hc
              simp only [Re.calm, Re.bind_ok] at hk
              obtain ⟨k, rfl, ek⟩ := flat_keyR ry hc.1.1
              have atL := er8.fH L (.dK acc) (show upd g.F L (.dK acc) L = some (.dK acc) from upd_same)
              have ra7 : RpK G7 acc accD := ra.ext (x3.trans (x4.trans (x5.trans (x6.trans x7))))
              refine ⟨acc, k, rfl, atL.1, by rw [ra7.length]; exact hc.1.2, G7, _, putK acc k z, dPut accD r1.1 r2.1, x2.trans (x3.trans (x4.trans (x5.trans (x6.trans x7)))), (Er.reblock er8).wiped hw, ?_, hk⟩
              rw [ek]
              exact ra7.put k rz
            · simp only [Re.calm, Re.bind_bad] at hk
              cases hk
    · have e0' : ds.drop i = [] := List.drop_eq_nil_of_le (by omega)
      rw [e0'] at hk
      simp only [dcGo] at hk
      cases hk
      obtain ⟨er3, a1, a2, a3, a4⟩ := er1.unblock hL x2 er2 hz
      exact .inl ⟨g2 (List.getElem?_eq_none (by omega)), h G2 H x2 er3 _ (.inr ⟨rfl, L, rfl, ⟨a2, _, a1, .dk ra⟩, a3, a4⟩)⟩
  · exact h.elim
end
end G6

namespace G6
open PySem PySem.Spec L2
/-! ### statements -/
def AfterS (W : Wx) (g : Gh) (G : Hp) (r : Re Fl) (E : Ends) : Prop := match r with
  | .ok .next e => ∀ σ G' H', Ext G G' → Er g e G' σ H' → E.nx σ H'
  | .ok (.ret d fr) e => ∀ σ G' H' v, Ext G G' → Er g e G' σ H' → Vr g e G' σ H' (d, fr) v → E.rt v H'
  | .exc c e => ∀ σ G' H', Ext G G' → Er g e G' σ H' → W c σ H'
  | .bad => False
theorem AfterS.ext {W : Wx} {g : Gh} {G G1 : Hp} {r : Re Fl} {E : Ends} (x : Ext G G1) (h : AfterS W g G r E) : AfterS W g G1 r E := by
  cases r with
  | ok f e =>
    cases f with
    | next => exact fun σ G' H' y er => h σ G' H' (x.trans y) er
    | ret d fr => exact fun σ G' H' v y er => h σ G' H' v (x.trans y) er
  | exc c e => exact fun σ G' H' y er => h σ G' H' (x.trans y) er
  | bad => exact h
/-- an expression ahead -/
theorem AfterS.split {α : Type} {W : Wx} {g : Gh} {G : Hp} {σ : L2.St} {r : Re α} {f : α → En → Re Fl} {E : Ends} (h : AfterS W g G (r.bind f) E) : After W g G σ r fun a e G' _ => AfterS W g G' (f a e) E := by
  cases r with
  | ok a e => exact fun G' H' y er => AfterS.ext y h
  | exc c e => exact fun G' H' y er => h σ G' H' y er
  | bad => exact h
/-- a statement ahead -/
theorem AfterS.seq {W : Wx} {g : Gh} {G : Hp} {r : Re Fl} {f : En → Re Fl} {E E2 : Ends} (h : AfterS W g G (r.bind fun fl e => match fl with
      | .next => f e
      | .ret d fr => .ok (.ret d fr) e) E) (hr : E2.rt = E.rt) (hn : ∀ e, r = .ok .next e → ∀ σ G' H', Ext G G' → Er g e G' σ H' → AfterS W g G' (f e) E → E2.nx σ H') : AfterS W g G r E2 := by
  cases r with
  | ok fl e =>
    cases fl with
    | next => exact fun σ G' H' y er => hn e rfl σ G' H' y er (AfterS.ext y h)
    | ret d fr => exact fun σ G' H' v y er vr => by rw [hr]; exact h σ G' H' v y er vr
  | exc c e => exact h
  | bad => exact h
def Slots (g : Gh) (ios : List Nat) : Prop := ∀ p ∈ g.io, p.1 ∈ ios
def tS (W : Wx) (ios : List Nat) (m : S) : TS := fun E σ H => ∃ g env G, Slots g ios ∧ Er g env G σ H ∧ AfterS W g G (m env) E
section
variable {W : Wx} {K : PySem.W.Frag} {ios : List Nat}
theorem s_nil (E : Ends) (σ : L2.St) (H : Hp) (h : tS W ios sNil E σ H) : tNext E σ H := by
  obtain ⟨g, env, G, sl, er, h⟩ := h
  exact h σ G H (.refl G) er
theorem s_seq {a b : S} (E : Ends) (σ : L2.St) (H : Hp) (h : tS W ios (sSeq a b) E σ H) : tSeq (tS W ios a) (tS W ios b) E σ H := by
  obtain ⟨g, env, G, sl, er, h⟩ := h
  refine ⟨g, env, G, sl, er, ?_⟩
  unfold sSeq at h
  exact AfterS.seq h rfl fun e _ τ G' H' x er' h' => ⟨g, e, G', sl, er', h'⟩
theorem s_expr {m : X} (E : Ends) (σ : L2.St) (H : Hp) (h : tS W ios (sExpr m) E σ H) : tDrop (tX W m) E σ H := by
  obtain ⟨g, env, G, sl, er, h⟩ := h
  refine ⟨g, env, G, er, ?_⟩
  unfold sExpr at h
  exact h.split.mono fun r e G' H' x er' h v _ => h σ G' H' (.refl G') er'
theorem s_ret {m : X} (E : Ends) (σ : L2.St) (H : Hp) (h : tS W ios (sRet m) E σ H) : tRet (tX W m) E σ H := by
  obtain ⟨g, env, G, sl, er, h⟩ := h
  refine ⟨g, env, G, er, ?_⟩
  unfold sRet at h
  exact h.split.mono fun r e G' H' x er' h v hv => h σ G' H' v (.refl G') er' hv
theorem s_retN (E : Ends) (σ : L2.St) (H : Hp) (h : tS W ios sRetN E σ H) : tRetN E σ H := by
  obtain ⟨g, env, G, sl, er, h⟩ := h
  exact h σ G H .non (.refl G) er (.inl ⟨rfl, .non⟩)
theorem s_if {t : T} {a b : S} (E : Ends) (σ : L2.St) (H : Hp) (h : tS W ios (sIf t a b) E σ H) : tIfS (tTe W t) (tS W ios a) (tS W ios b) E σ H := by
  obtain ⟨g, env, G, sl, er, h⟩ := h
  refine ⟨g, env, G, er, ?_⟩
  unfold sIf at h
  refine h.split.mono fun c e G' H' x er' h => ?_
  cases c with
  | true => simp only [if_true] at h ⊢; exact ⟨g, e, G', sl, er', h⟩
  | false => simp only [Bool.false_eq_true, if_false] at h ⊢; exact ⟨g, e, G', sl, er', h⟩
theorem s_asg {i : Nat} {m : X} (hi : i ∉ ios) (E : Ends) (σ : L2.St) (H : Hp) (h : tS W ios (sAsg i m) E σ H) : tAsg (tX W m) (gName i) E σ H := by
  obtain ⟨g, env, G, sl, er, h⟩ := h
  refine ⟨g, env, G, er, ?_⟩
  unfold sAsg at h
  refine h.split.mono fun r e G' H' x er' h v hv => ?_
  exact h _ G' H' (.refl G') (er'.store hv fun p hp z => hi (z ▸ sl p hp))
theorem s_unp {t : Tg} {m : X} (hi : ∀ i ∈ t.slots, i ∉ ios) (E : Ends) (σ : L2.St) (H : Hp) (h : tS W ios (sUnp t m) E σ H) : tAsg (tX W m) (gTg K t) E σ H := by
  obtain ⟨g, env, G, sl, er, h⟩ := h
  refine ⟨g, env, G, er, ?_⟩
  unfold sUnp at h
  refine h.split.mono fun r e G' H' x er' h v hv => ?_
  obtain ⟨G2, x2, er2, rp⟩ := er'.cold hv
  cases q : t.put r.1 e with
  | none => simp only [q] at h; exact h.elim
  | some e2 =>
    simp only [q] at h
    exact put_ok t er2 rp q (fun p hp hm => hi p.1 hm (sl p hp)) fun τ er3 off => h τ G2 H' x2 er3
theorem s_aug {i : Nat} {m : X} (hi : i ∉ ios) (E : Ends) (σ : L2.St) (H : Hp) (h : tS W ios (sAug i m) E σ H) : tAug i (tX W m) (ipI fun a b => a + b) E σ H := by
  obtain ⟨g, env, G, sl, er, h⟩ := h
  simp only [sAug] at h
  cases e : env[i]? with
  | none => simp only [e] at h; exact h.elim
  | some s =>
    cases s with
    | none => simp only [e] at h; exact h.elim
    | some s =>
      obtain ⟨b, d⟩ := s
      cases d with
      | int a =>
        simp only [e] at h
        obtain ⟨v, h1, h2, h3⟩ := er.sl i b _ e
        have hv : v = .int a := by
          cases b with
          | false =>
            have rp := h2 rfl
            cases rp
            rfl
          | true =>
            obtain ⟨_, _, ⟨_, _, _, c⟩, _⟩ := h3 rfl
            cases c
        refine ⟨v, h1, g, env, G, er, h.split.mono fun r e2 G' H' x er' h y hy => ?_⟩
        obtain ⟨r1, r2⟩ := r
        cases r1 with
        | int c =>
          have ey : y = .int c := by
            rcases hy with ⟨_, rp⟩ | ⟨_, _, _, ⟨_, _, _, c⟩, _⟩
            · cases rp; rfl
            · cases c
          refine ⟨a, c, hv, ey, ?_⟩
          exact h _ G' H' (.refl G') (er'.store (r := (.int (a + c), false)) (.inl ⟨rfl, .int _⟩) fun p hp z => hi (z ▸ sl p hp))
        | _ => exact h.elim
      | _ => simp only [e] at h; exact h.elim
theorem s_for {it : It} {t : Tg} {b : S} (hi : ∀ i ∈ t.slots, i ∉ ios) (E : Ends) (σ : L2.St) (H : Hp) (h : tS W ios (sFor it t b) E σ H) : tFor (tIt W it) (gTg K t) (tS W ios b) E σ H := by
  obtain ⟨g, env, G, sl, er, h⟩ := h
  refine ⟨g, env, G, er, ?_⟩
  unfold sFor at h
  refine h.split.mono fun ds e1 G1 H1 x1 er1 h J goes => ?_
  refine ⟨fun i m σ H => m = ds.length - i ∧ i ≤ ds.length ∧ ∃ (G : Hp) (e : En), Ext G1 G ∧ Er g e G σ H ∧ AfterS W g G (forGo t b (ds.drop i) e) E, ⟨ds.length, by simp, Nat.zero_le _, G1, e1, .refl G1, er1, by simpa using h⟩, ?_⟩
  rintro i m σ H ⟨rfl, hi', G2, e, x2, er2, hk⟩
  obtain ⟨g1, g2⟩ := goes G2 H x2 er2.gH i
  by_cases hlt : i < ds.length
  · have hd : ds[i]? = some ds[i] := List.getElem?_eq_getElem hlt
    obtain ⟨go, yl⟩ := g1 _ hd
    refine .inr ⟨go, fun σ' H' => ∃ (G : Hp) (e : En), Ext G1 G ∧ Er g e G σ' H' ∧ AfterS W g G (forGo t b (ds.drop (i + 1)) e) E, fun σ' H' h => ⟨ds.length - (i + 1), by omega, rfl, hlt, h⟩, fun x H' hy => ?_⟩
    rw [List.drop_eq_getElem_cons hlt] at hk
    simp only [forGo] at hk
    obtain ⟨G3, x3, er3, vr⟩ := er2.out (yl x H' hy)
    have rp : Rp G3 x ds[i] := by
      rcases vr with ⟨_, rp⟩ | ⟨z, _⟩
      · exact rp
      · cases z
    cases q : t.put ds[i] e with
    | none => simp only [q] at hk; exact hk.elim
    | some e2 =>
      simp only [q] at hk
      refine put_ok t er3 rp q (fun p hp hm => hi p.1 hm (sl p hp)) fun τ er4 off => ⟨g, e2, G3, sl, er4, ?_⟩
      refine AfterS.seq (hk.ext x3) rfl fun e5 _ τ' G5 H5 x5 er5 h5 => ?_
      exact ⟨G5, e5, x2.trans (x3.trans x5), er5, h5⟩
  · have e0 : ds.drop i = [] := List.drop_eq_nil_of_le (by omega)
    rw [e0] at hk
    exact .inl ⟨g2 (List.getElem?_eq_none (by omega)), hk σ G2 H (.refl G2) er2⟩
theorem s_while {t : T} {b : S} (E : Ends) (σ : L2.St) (H : Hp) (h : tS W ios (sWhile t b) E σ H) : tWhile (tTe W t) (tS W ios b) E σ H := by
  obtain ⟨g, env, G, sl, er, h⟩ := h
  refine ⟨fun m σ H => ∃ (G : Hp) (e : En), Er g e G σ H ∧ AfterS W g G (whileGo t b m e) E, ⟨wFuel, G, env, er, h⟩, ?_⟩
  rintro m σ H ⟨G2, e, er2, hk⟩
  cases m with
  | zero => exact hk.elim
  | succ n =>
    simp only [whileGo] at hk
    refine ⟨g, e, G2, er2, hk.split.mono fun c e2 G3 H3 x3 er3 h3 => ?_⟩
    cases c with
    | false =>
      simp only [Bool.false_eq_true, if_false] at h3 ⊢
      exact h3 σ G3 H3 (.refl G3) er3
    | true =>
      simp only [if_true] at h3 ⊢
      refine ⟨fun σ' H' => ∃ (G : Hp) (e : En), Er g e G σ' H' ∧ AfterS W g G (whileGo t b n e) E, fun σ' H' h => ⟨n, Nat.lt_succ_self _, h⟩, g, e2, G3, sl, er3, ?_⟩
      exact AfterS.seq h3 rfl fun e5 _ τ' G5 H5 x5 er5 h5 => ⟨G5, e5, er5, h5⟩
/-! ### methods that change -/
theorem ty_list {g : Gh} {env : En} {G : Hp} {σ : L2.St} {H : Hp} {i : Nat} {v : V} (er : Er g env G σ H) (h : isListAt env i = true) (hv : σ[i]? = some (some v)) : tyV K "list" v H := by
  unfold isListAt at h
  split at h
  · rename_i b xs e
    obtain ⟨w, h1, h2, h3⟩ := er.sl i b _ e
    rw [h1] at hv
    cases hv
    have o : Op1 G H v (.list xs) := by
      cases b with
      | false => exact .inl (h2 rfl)
      | true =>
        obtain ⟨a, q1, q2, _⟩ := h3 rfl
        exact .inr ⟨a, q1, q2⟩
    obtain ⟨a, vs, rfl, ra, _⟩ := op1_list er.gH o
    exact .inl ⟨rfl, _, sqL ra⟩
  · cases h
theorem own_list {g : Gh} {env : En} {G : Hp} {σ : L2.St} {H : Hp} {i : Nat} {xs : List D} (er : Er g env G σ H) (e : env[i]? = some (some (true, .list xs))) : ∃ a vs, σ[i]? = some (some (V.ref a)) ∧ H a = some (.lst vs) ∧ RpAll G vs xs := by
  obtain ⟨w, h1, _, h3⟩ := er.sl i true _ e
  obtain ⟨a, rfl, ⟨_, o, ho, c⟩, _⟩ := h3 rfl
  cases c with
  | lst r => exact ⟨a, _, h1, ho, r⟩
theorem slot_there {env : En} {i : Nat} (h : isListAt env i = true) : ∃ b xs, env[i]? = some (some (b, .list xs)) := by
  unfold isListAt at h
  split at h
  · rename_i b xs e; exact ⟨b, xs, e⟩
  · cases h
theorem l_append {i : Nat} {m : X} (σ : L2.St) (H : Hp) (Q : VK) (h : tX W (xAppend i m) σ H Q) : tBM K "list" rAppend (tVar i) (tCons (tX W m) tNil) σ H Q := by
  obtain ⟨g, env, G, er, h⟩ := h
  unfold xAppend at h
  split at h
  · rename_i hl
    obtain ⟨b, xs, e⟩ := slot_there hl
    obtain ⟨v, h1, _⟩ := er.sl i b _ e
    refine ⟨v, h1, ty_list er hl h1, g, env, G, er, h.split.mono fun r e2 G' H' x er' h y hy => ?_⟩
    obtain ⟨G2, x2, er2, ry⟩ := er'.cold hy
    split at h
    · rename_i zs hz
      split at h
      · rename_i hlen
        obtain ⟨a, vs, q1, q2, q3⟩ := own_list er2 hz
        rw [h1] at q1
        cases q1
        refine ⟨a, vs, y, rfl, rfl, q2, by rw [q3.length]; exact hlen, ?_⟩
        exact h G2 _ x2 (er2.mutate hz h1 (.lst (q3.append (.cons ry .nil)))) _ (.inl ⟨rfl, .non⟩)
      · exact h.elim
    · exact h.elim
  · exact h.elim
theorem l_pop {i : Nat} {p : Pk} (σ : L2.St) (H : Hp) (Q : VK) (h : tX W (xPop i p) σ H Q) : tBM K "list" rPopAt (tVar i) (tCons (tPk W p) tNil) σ H Q := by
  obtain ⟨g, env, G, er, h⟩ := h
  unfold xPop at h
  split at h
  · rename_i hl
    obtain ⟨b, xs, e⟩ := slot_there hl
    obtain ⟨v, h1, _⟩ := er.sl i b _ e
    refine ⟨v, h1, ty_list er hl h1, g, env, G, er, h.split.mono fun t e2 G' H' x er' h y hy => ?_⟩
    cases qt : tget e2 t with
    | none => simp only [qt] at h; exact h.elim
    | some d =>
      have oy := op1_of er' hy qt
      cases d with
      | int k =>
        cases q : e2[i]? with
        | none => simp only [qt, q] at h; exact h.elim
        | some s =>
          cases s with
          | none => simp only [qt, q] at h; exact h.elim
          | some s =>
            obtain ⟨b2, d2⟩ := s
            cases b2 with
            | false => simp only [qt, q] at h; exact h.elim
            | true =>
              cases d2 with
              | list zs =>
                simp only [qt, q] at h
                obtain ⟨a, vs, q1, q2, q3⟩ := own_list er' q
                rw [h1] at q1
                cases q1
                split at h
                case isFalse => exact h.elim
                rename_i h63
                simp only [small63, Bool.and_eq_true, decide_eq_true_eq] at h63
                cases qj : ixN zs.length k with
                | none => simp only [qj] at h; exact h.elim
                | some j =>
                  simp only [qj] at h
                  cases qx : zs[j]? with
                  | none => simp only [qx] at h; exact h.elim
                  | some z =>
                    simp only [qx] at h
                    obtain ⟨w, hw, rw'⟩ := q3.get qx
                    have hb := ixN_seq qj
                    have hlen : vs.length = zs.length := q3.length
                    refine ⟨a, vs, k, j, w, rfl, by rw [op1_int oy], q2, h63.1, h63.2, by rw [hlen]; exact hb.1, hw, ?_⟩
                    · exact h G' _ (.refl G') (er'.mutate q h1 (.lst (q3.eraseIdx j))) _ (.inl ⟨rfl, rw'⟩)
              | _ => simp only [qt, q] at h; exact h.elim
      | _ => simp only [qt] at h; exact h.elim
  · exact h.elim
end
end G6

namespace G6
open PySem PySem.Spec L2
section
variable {X : Cx}
/-- xs.extend(ys), ys any list -/
def rExt : V → List V → Hp → VK → Prop := fun x vs H Q => ∃ l b xs zs, x = .ref l ∧ vs = [.ref b] ∧ H l = some (.lst xs) ∧ Rd H b (.lst zs) ∧ xs.length + zs.length ≤ sizeLine ∧ Q .non (upd H l (.lst (xs ++ zs)))
theorem mt_ext : MtM X "list.extend" rExt := by
  intro pins s σ H x vs v us Q I hx hv h
  obtain ⟨l, b, xs, zs, rfl, rfl, hl, hb, hz, q⟩ := h
  cases hx
  obtain ⟨u, rfl, ru⟩ := hv.one
  cases ru
  obtain ⟨_, i1, n1, r1, e1, g1⟩ := I.lstM hl
  obtain ⟨_, i2, n2, r2, e2, g2⟩ := lstR I hb
  have sz : i1.toArray.size + i2.toArray.size ≤ sizeLine := by
    rw [List.size_toArray, List.size_toArray]
    omega
  have c : ¬ (!i1.toArray.isEmpty && Builtin.List.listTooLong (i1.toArray.size + i2.toArray.size)) = true := by
    rw [notLongL sz, Bool.and_false]
    decide
  refine call_meets F.slot_list_extend ⟨_, g1, rfl⟩ F.entry_list_extend (F.args_list_extend_2 _ _) (AutoSeq1.list_extend_list_list_0 l i1.toArray n1 b i2.toArray n2 c (by rw [List.size_toArray]; omega) (by omega)) ⟨g1, g2, ?_⟩
  exact ⟨.non, _, I.lset (its' := i1 ++ i2) hl g1 (by simp) (r1.append r2) (by rw [List.length_append]; omega), rfl, q⟩
end
section
variable {W : Wx} {K : PySem.W.Frag} {ios : List Nat}
theorem l_extend {i : Nat} {m : X} (σ : L2.St) (H : Hp) (Q : VK) (h : tX W (xExtend i m) σ H Q) : tBM K "list" rExt (tVar i) (tCons (tX W m) tNil) σ H Q := by
  obtain ⟨g, env, G, er, h⟩ := h
  unfold xExtend at h
  split at h
  · rename_i hl
    obtain ⟨b, xs, e⟩ := slot_there hl
    obtain ⟨v, h1, _⟩ := er.sl i b _ e
    refine ⟨v, h1, ty_list er hl h1, g, env, G, er, h.split.mono fun r e2 G' H' x er' h y hy => ?_⟩
    obtain ⟨G2, x2, er2, ry⟩ := er'.cold hy
    split at h
    · rename_i zs ys hz hr
      split at h
      · rename_i hlen
        obtain ⟨a, vs, q1, q2, q3⟩ := own_list er2 hz
        rw [h1] at q1
        cases q1
        rw [hr] at ry
        cases ry with
        | @lst b2 ws _ rb hb =>
          refine ⟨a, b2, vs, ws, rfl, rfl, q2, rd_same er2.gH rb, by rw [q3.length, hb.length]; exact hlen, ?_⟩
          exact h G2 _ x2 (er2.mutate hz h1 (.lst (q3.append hb))) _ (.inl ⟨rfl, .non⟩)
      · exact h.elim
    · exact h.elim
  · exact h.elim
theorem l_pop0 {i : Nat} (σ : L2.St) (H : Hp) (Q : VK) (h : tX W (xPop0 i) σ H Q) : tBM0 K "list" rPop (tVar i) σ H Q := by
  obtain ⟨g, env, G, er, h⟩ := h
  unfold xPop0 at h
  split at h
  · rename_i zs hz
    obtain ⟨a, vs, q1, q2, q3⟩ := own_list er hz
    split at h
    · rename_i y hy
      have hy2 : zs[vs.length - 1]? = some y := by rw [q3.length]; exact hy
      obtain ⟨w, hw, rw'⟩ := q3.get hy2
      refine ⟨.ref a, q1, ty_list er (by simp [isListAt, hz]) q1, a, vs, w, rfl, rfl, q2, hw, ?_⟩
      exact h G _ (.refl G) (er.mutate hz q1 (.lst q3.dropLast)) _ (.inl ⟨rfl, rw'⟩)
    · exact h.elim
  · exact h.elim
end
/-! ### x[k] = v -/
section
variable {X : Cx}
/-- a list's item, a dict's entry; an empty dict takes keys of either kind -/
def rPut : TSet := fun o i v H Q => rSetL o i v H Q ∨ rSetD o i v H Q ∨
  (∃ a b ks, o = .ref a ∧ i = .ref b ∧ H a = some (.dK []) ∧ H b = some (.tup (List.map kV ks)) ∧ Q (upd H a (.dT [(ks, v)]))) ∨ (∃ a k, o = .ref a ∧ i = kV k ∧ H a = some (.dT []) ∧ Q (upd H a (.dK [(k, v)])))
theorem set_put (hu : X.A.units + 1 < cLine) : PSet X rPut := by
  intro pins s σ H o i v ov iv u Q I ho hi hv h
  rcases h with h | h | ⟨a, b, ks, rfl, rfl, e, eb, q⟩ | ⟨a, k, rfl, rfl, e, q⟩
  · exact set_list pins s σ H o i v ov iv u Q I ho hi hv h
  · exact set_dict hu pins s σ H o i v ov iv u Q I ho hi hv h
  · have nb : b ≠ a := fun z => by rw [z, e] at eb; cases eb
    refine set_dict hu pins s σ _ (.ref a) (.ref b) v ov iv u Q (flip_T I e) ho hi hv ⟨a, _, rfl, DPut.t (k := ks) upd_same (by rw [upd_ne nb]; exact eb) (by decide), ?_⟩
    rw [upd_upd]
    exact q
  · refine set_dict hu pins s σ _ (.ref a) (kV k) v ov iv u Q (flip_K I e) ho hi hv ⟨a, _, rfl, DPut.k (k := k) upd_same (by decide), ?_⟩
    rw [upd_upd]
    exact q
end
section
variable {W : Wx} {K : PySem.W.Frag} {ios : List Nat}
theorem own_dict {g : Gh} {env : En} {G : Hp} {σ : L2.St} {H : Hp} {i : Nat} {xs : List (D × D)} (er : Er g env G σ H) (e : env[i]? = some (some (true, .dict xs))) : ∃ a, σ[i]? = some (some (V.ref a)) ∧ ((∃ kvs, H a = some (.dK kvs) ∧ RpK G kvs xs) ∨ ∃ kvs, H a = some (.dT kvs) ∧ RpT G kvs xs) := by
  obtain ⟨w, h1, _, h3⟩ := er.sl i true _ e
  obtain ⟨a, rfl, ⟨_, o, ho, c⟩, _⟩ := h3 rfl
  cases c with
  | dk r => exact ⟨a, h1, .inl ⟨_, ho, r⟩⟩
  | dt r => exact ⟨a, h1, .inr ⟨_, ho, r⟩⟩
theorem s_putI {i : Nat} {k : Pk} {m : X} (E : Ends) (σ : L2.St) (H : Hp) (h : tS W ios (sPutI i k m) E σ H) : tAsg (tX W m) (gSub (tVar i) (tPk W k) rPut) E σ H := by
  obtain ⟨g, env, G, sl, er, h⟩ := h
  refine ⟨g, env, G, er, ?_⟩
  unfold sPutI at h
  refine h.split.mono fun r e1 G1 H1 x1 er1 h v hv => ?_
  obtain ⟨G2, x2, er2, rv⟩ := er1.cold hv
  have h := h.ext x2
  split at h
  case isFalse => exact h.elim
  rename_i hset
  have hi : ∃ b d, e1[i]? = some (some (b, d)) := by
    unfold isSetAt at hset
    split at hset
    · rename_i s e; exact ⟨s.1, s.2, e⟩
    · cases hset
  obtain ⟨b, d0, hi⟩ := hi
  obtain ⟨w, h1, _⟩ := er2.sl i b d0 hi
  refine ⟨w, h1, g, e1, G2, er2, h.split.mono fun t e2 G3 H3 x3 er3 h y hy => ?_⟩
  have rv3 := rv.ext x3
  cases qt : tget e2 t with
  | none => simp only [qt] at h; exact h.elim
  | some key =>
    have oy := op1_of er3 hy qt
    cases q : e2[i]? with
    | none => simp only [qt, q] at h; cases key <;> exact h.elim
    | some s =>
      cases s with
      | none => simp only [qt, q] at h; cases key <;> exact h.elim
      | some s =>
        obtain ⟨b2, d2⟩ := s
        cases b2 with
        | false => simp only [qt, q] at h; cases key <;> cases d2 <;> exact h.elim
        | true =>
          cases d2 with
          | list zs =>
            cases key with
            | int n =>
              simp only [qt, q] at h
              obtain ⟨a, vs, q1, q2, q3⟩ := own_list er3 q
              rw [h1] at q1
              cases q1
              cases qj : ixN zs.length n with
              | none => simp only [qj] at h; exact h.elim
              | some j =>
                simp only [qj] at h
                refine .inl ⟨a, vs, n, j, rfl, op1_int oy, q2, by rw [q3.length]; exact qj, ?_⟩
                exact h σ G3 _ (.refl G3) (er3.mutate q h1 (.lst (q3.set rv3 j)))
            | _ => simp only [qt, q] at h; exact h.elim
          | dict kvs =>
            have h' : AfterS W g G3 (if kFits kvs key && decide (kvs.length < sizeLine) then .ok .next (e2.set i (some (true, .dict (dPut kvs key r.1)))) else .bad) E := by
              cases key <;> simpa only [qt, q] using h
            split at h'
            · rename_i hc
              simp only [Bool.and_eq_true, decide_eq_true_eq] at hc
              obtain ⟨a, q1, q2⟩ := own_dict er3 q
              rw [h1] at q1
              cases q1
              have fit := hc.1
              simp only [kFits, Bool.or_eq_true, Bool.and_eq_true] at fit
              rcases fit with ⟨fk, fa⟩ | ⟨fk, fa⟩
              · obtain ⟨j, rfl, rfl⟩ := flat_key oy fk
                rcases q2 with ⟨ks, e, rk⟩ | ⟨ks, e, rk⟩
                · refine .inr (.inl ⟨a, _, rfl, DPut.k (k := j) e (by rw [rk.length]; exact hc.2), ?_⟩)
                  exact h' σ G3 _ (.refl G3) (er3.mutate q h1 (.dk (rk.put j rv3)))
                · cases rk with
                  | nil => exact .inr (.inr (.inr ⟨a, j, rfl, rfl, e, h' σ G3 _ (.refl G3) (er3.mutate q h1 (.dk (RpK.put .nil j rv3)))⟩))
                  | cons r1 r2 =>
                    exfalso
                    simp only [List.all_cons, Bool.and_eq_true] at fa
                    exact not_both fa.1 (tupK_of _)
              · cases key with
                | tuple ts =>
                  obtain ⟨b3, vs, rfl, gb, hb, hv3⟩ := op1_tuple er3.gH oy
                  obtain ⟨js, rfl, rfl⟩ := keys_of hv3 fk
                  rcases q2 with ⟨ks, e, rk⟩ | ⟨ks, e, rk⟩
                  · cases rk with
                    | nil => exact .inr (.inr (.inl ⟨a, b3, js, rfl, rfl, e, hb, h' σ G3 _ (.refl G3) (er3.mutate q h1 (.dt (RpT.put .nil js rv3)))⟩))
                    | cons r1 r2 =>
                      exfalso
                      simp only [List.all_cons, Bool.and_eq_true] at fa
                      exact not_both (flatK_kD _) fa.1
                  · refine .inr (.inl ⟨a, _, rfl, DPut.t (k := js) e hb (by rw [rk.length]; exact hc.2), ?_⟩)
                    exact h' σ G3 _ (.refl G3) (er3.mutate q h1 (.dt (rk.put js rv3)))
                | _ => simp [tupK] at fk
            · exact h'.elim
          | _ => simp only [qt, q] at h; cases key <;> exact h.elim
end
end G6

namespace G6
open PySem PySem.Spec L2
/-! ### values that are stored together -/
inductive VrAll (g : Gh) (e : En) (G : Hp) (σ : L2.St) (H : Hp) : List (D × Bool) → List V → Prop
  | nil : VrAll g e G σ H [] []
  | cons {r : D × Bool} {rs : List (D × Bool)} {v : V} {vs : List V} : Vr g e G σ H r v → (r.2 = true → v ∉ vs) → VrAll g e G σ H rs vs → VrAll g e G σ H (r :: rs) (v :: vs)
theorem VrAll.length {g : Gh} {e : En} {G : Hp} {σ : L2.St} {H : Hp} : ∀ {rs : List (D × Bool)} {vs : List V}, VrAll g e G σ H rs vs → vs.length = rs.length
  | _, _, .nil => rfl
  | _, _, .cons _ _ r => by rw [List.length_cons, List.length_cons, r.length]
def tFs (W : Wx) (ms : List X) : TA := fun σ H Q => ∃ g env G, Er g env G σ H ∧ After W g G σ (evFs ms env) fun rs e G' H' => ∀ vs, VrAll g e G' σ H' rs vs → Q vs H'
/-- the frame with one more object to keep -/
def gK (g : Gh) (a : Addr) (o : HO) (h : ∀ ys, o ≠ .tup ys) : Gh where
  F := upd g.F a o
  io := g.io
  fT := fun b vs e => by
    by_cases z : b = a
    · subst z; rw [upd_same] at e; exact h vs (Option.some.inj e)
    · rw [upd_ne z] at e; exact g.fT b vs e
theorem Ct.ne_tup {G : Hp} {o : HO} {d : D} (c : Ct G o d) : ∀ ys, o ≠ .tup ys := by
  intro ys z
  subst z
  cases c
section
variable {g : Gh} {G H : Hp} {σ : L2.St} {a : Addr} {o : HO} {ho : ∀ ys, o ≠ .tup ys}
theorem Er.guard {e : En} (er : Er g e G σ H) (hH : H a = some o) (hG : G a = none) (hS : NotSlot e σ a) : Er (gK g a o ho) e G σ H := by
  refine ⟨er.gH, fun b x q => ?_, er.len, fun i b d h => ?_, er.dj, er.io⟩
  · by_cases z : b = a
    · subst z
      have q2 : upd g.F b o b = some x := q
      rw [upd_same] at q2
      cases q2
      exact ⟨hH, hG⟩
    · have q2 : upd g.F a o b = some x := q
      rw [upd_ne z] at q2
      exact er.fH b x q2
  · obtain ⟨v, h1, h2, h3⟩ := er.sl i b d h
    refine ⟨v, h1, h2, fun hb => ?_⟩
    obtain ⟨c, rfl, q1, q2⟩ := h3 hb
    subst hb
    refine ⟨c, rfl, q1, ?_⟩
    show upd g.F a o c = none
    rw [upd_ne (fun z => hS i d h (by rw [h1, z]))]
    exact q2
theorem Er.unguard {e : En} (hF : g.F a = none) (er : Er (gK g a o ho) e G σ H) : Er g e G σ H := by
  have key : ∀ b, (gK g a o ho).F b = none → g.F b = none := fun b q => by
    have q2 : upd g.F a o b = none := q
    by_cases z : b = a
    · subst z; exact hF
    · rw [upd_ne z] at q2; exact q2
  refine ⟨er.gH, fun b x q => er.fH b x ?_, er.len, fun i b d h => ?_, er.dj, er.io⟩
  · show upd g.F a o b = some x
    rw [upd_ne (ne_of_none q hF)]
    exact q
  · obtain ⟨v, h1, h2, h3⟩ := er.sl i b d h
    refine ⟨v, h1, h2, fun hb => ?_⟩
    obtain ⟨c, rfl, q1, q2⟩ := h3 hb
    exact ⟨c, rfl, q1, key c q2⟩
theorem Vr.unguard {e : En} {r : D × Bool} {v : V} (hF : g.F a = none) (h : Vr (gK g a o ho) e G σ H r v) : Vr g e G σ H r v ∧ (r.2 = true → v ≠ .ref a) := by
  rcases h with ⟨q, h⟩ | ⟨q, b, rfl, h1, h2, h3⟩
  · exact ⟨.inl ⟨q, h⟩, fun z => by rw [q] at z; cases z⟩
  · have h4 : upd g.F a o b = none := h2
    by_cases z : b = a
    · subst z; rw [upd_same] at h4; cases h4
    · rw [upd_ne z] at h4
      exact ⟨.inr ⟨q, b, rfl, h1, h4, h3⟩, fun _ y => z (V.ref.inj y)⟩
theorem Rp.not_own {b : Addr} {d : D} (h : Rp G (.ref b) d) (n : G b = none) : False := by
  obtain ⟨x, hx⟩ := h.solid
  rw [n] at hx
  cases hx
theorem VrAll.unguard {e : En} (hF : g.F a = none) (hG : G a = none) : ∀ {rs : List (D × Bool)} {vs : List V}, VrAll (gK g a o ho) e G σ H rs vs → VrAll g e G σ H rs vs ∧ V.ref a ∉ vs
  | _, _, .nil => ⟨.nil, by simp⟩
  | _, _, @VrAll.cons _ _ _ _ _ r rs v vs h n t => by
    obtain ⟨t1, t2⟩ := t.unguard hF hG
    obtain ⟨h1, h2⟩ := h.unguard hF
    refine ⟨.cons h1 n t1, fun z => ?_⟩
    rcases List.mem_cons.mp z with z | z
    · rcases h1 with ⟨q, rp⟩ | ⟨q, _⟩
      · rw [← z] at rp; exact rp.not_own hG
      · exact h2 q z.symm
    · exact t2 z
end
section
variable {W : Wx} {K : PySem.W.Frag} {ios : List Nat}
theorem fs_nil (σ : L2.St) (H : Hp) (Q : List V → Hp → Prop) (h : tFs W [] σ H Q) : tNil σ H Q := by
  obtain ⟨g, env, G, er, h⟩ := h
  exact h G H (.refl G) er [] .nil
theorem fs_cons {p : X} {ps : List X} (σ : L2.St) (H : Hp) (Q : List V → Hp → Prop) (h : tFs W (p :: ps) σ H Q) : tCons (tX W p) (tFs W ps) σ H Q := by
  obtain ⟨g, env, G, er, h⟩ := h
  refine ⟨g, env, G, er, ?_⟩
  have h2 : After W g G σ ((p env).bind fun r e1 => (evFs ps e1).bind fun ts e2 => .ok (r :: ts) e2) fun ts e G' H' => ∀ vs, VrAll g e G' σ H' ts vs → Q vs H' := h
  refine h2.split.mono fun r e G' H' x er' h v hv => ?_
  rcases hv with ⟨q, rp⟩ | ⟨q, a, rfl, ⟨hG, o, ho, c⟩, hF, hS⟩
  · refine ⟨g, e, G', er', h.split.mono fun ts e2 G2 H2 x2 er2 h vs hvs => ?_⟩
    exact h G2 H2 (.refl G2) er2 _ (.cons (.inl ⟨q, rp.ext x2⟩) (fun z => by rw [q] at z; cases z) hvs)
  · have er1 : Er (gK g a o c.ne_tup) e G' σ H' := er'.guard ho hG hS
    refine ⟨gK g a o c.ne_tup, e, G', er1, ?_⟩
    have h := h.split
    cases q3 : evFs ps e with
    | bad => rw [q3] at h; exact h
    | exc cc e2 => rw [q3] at h; exact fun G2 H2 x2 er2 => h G2 H2 x2 (er2.unguard hF)
    | ok ts e2 =>
      rw [q3] at h
      intro G2 H2 x2 er2 vs hvs
      have fa := er2.fH a o (by show upd g.F a o a = some o; rw [upd_same])
      obtain ⟨t1, t2⟩ := hvs.unguard hF fa.2
      have h3 := h G2 H2 x2 (er2.unguard hF)
      refine h3 G2 H2 (.refl G2) (er2.unguard hF) _ (.cons (.inr ⟨q, a, rfl, ⟨fa.2, o, fa.1, c.ext x2⟩, hF, fun i d hi hs => ?_⟩) (fun _ => t2) t1)
      obtain ⟨w, w1, _, w3⟩ := er2.sl i true d hi
      obtain ⟨b, rfl, _, w4⟩ := w3 rfl
      rw [w1] at hs
      cases hs
      have w5 : upd g.F a o a = none := w4
      rw [upd_same] at w5
      cases w5
/-- stores from the left -/
def setVs : List Nat → List V → L2.St → L2.St
  | i :: is, v :: vs, σ => setVs is vs (σ.set i (some v))
  | _, _, σ => σ
theorem store_all {g : Gh} {G H : Hp} : ∀ {is : List Nat} {rs : List (D × Bool)} {vs : List V} {e : En} {σ : L2.St}, Er g e G σ H → VrAll g e G σ H rs vs → (∀ p ∈ g.io, p.1 ∉ is) → is.length = rs.length → Er g (setAll is rs e) G (setVs is vs σ) H
  | [], _, _, _, _, er, h, _, hl => by
    cases h with
    | nil => exact er
    | cons _ _ _ => simp at hl
  | i :: is, _, _, e, σ, er, h, hio, hl => by
    cases h with
    | nil => simp at hl
    | @cons r rs v vs h n t =>
      have er1 := er.store (i := i) h (fun p hp z => hio p hp (by simp [z]))
      refine store_all (is := is) er1 ?_ (fun p hp z => hio p hp (by simp [z])) (by simpa using hl)
      -- the others as before
      have go : ∀ {rs2 : List (D × Bool)} {vs2 : List V}, VrAll g e G σ H rs2 vs2 → (r.2 = true → v ∉ vs2) → VrAll g (e.set i (some (r.2, r.1))) G (σ.set i (some v)) H rs2 vs2 := by
        intro rs2 vs2 q hn
        induction q with
        | nil => exact .nil
        | @cons r2 rs2 v2 vs2 h2 n2 t2 ih =>
          refine .cons ?_ n2 (ih fun z y => hn z (List.mem_cons_of_mem _ y))
          rcases h2 with ⟨q, rp⟩ | ⟨q, b, rfl, o1, o2, o3⟩
          · exact .inl ⟨q, rp⟩
          · refine .inr ⟨q, b, rfl, o1, o2, fun j d hj hs => ?_⟩
            rcases set_some hj with ⟨rfl, z⟩ | ⟨z, hj⟩
            · have hlt : j < σ.length := by
                have := get_lt hs
                rwa [List.length_set] at this
              rw [List.getElem?_set_self hlt] at hs
              have : r.2 = true := by
                have := congrArg Prod.fst z
                exact this.symm
              exact hn this (by rw [Option.some.inj (Option.some.inj hs)]; exact List.mem_cons_self)
            · rw [List.getElem?_set_ne (fun y => z y.symm)] at hs
              exact o3 j d hj hs
      exact go t n
def tParN (is : List Nat) (ta : TA) : TS := fun E σ H => ta σ H fun vs H1 => vs.length = is.length ∧ vs.length ≤ 1000 ∧ (∀ p, H1 p = none → E.nx (setVs is vs σ) (upd H1 p (.tup vs))) ∧ E.nx (setVs is vs σ) H1
theorem evFs_len : ∀ (ms : List X) (e : En) (ds : List (D × Bool)) (e2 : En), evFs ms e = .ok ds e2 → ds.length = ms.length := by
  intro ms
  induction ms with
  | nil => intro e ds e2 h; cases h; rfl
  | cons m r ih =>
    intro e ds e2 h
    simp only [evFs] at h
    cases q : m e with
    | ok a e1 =>
      rw [q] at h
      simp only [Re.bind_ok] at h
      cases q2 : evFs r e1 with
      | ok b e3 =>
        rw [q2] at h
        simp only [Re.bind_ok] at h
        cases h
        rw [List.length_cons, List.length_cons, ih _ _ _ q2]
      | exc c e3 => rw [q2] at h; cases h
      | bad => rw [q2] at h; cases h
    | exc c e1 => rw [q] at h; cases h
    | bad => rw [q] at h; cases h
theorem VrAll.alloc {g : Gh} {e : En} {G H : Hp} {σ : L2.St} {p : Addr} {o : HO} (hp : H p = none) : ∀ {rs : List (D × Bool)} {vs : List V}, VrAll g e G σ H rs vs → VrAll g e G σ (upd H p o) rs vs
  | _, _, .nil => .nil
  | _, _, .cons h n t => by
    refine .cons ?_ n (t.alloc hp)
    rcases h with ⟨q, rp⟩ | ⟨q, b, rfl, ⟨o1, x, o2, o3⟩, o4, o5⟩
    · exact .inl ⟨q, rp⟩
    · exact .inr ⟨q, b, rfl, ⟨o1, x, by rw [upd_ne (ne_of_none o2 hp)]; exact o2, o3⟩, o4, o5⟩
theorem s_par {is : List Nat} {ms : List X} (hi : ∀ i ∈ is, i ∉ ios) (hl : is.length = ms.length) (hz : ms.length ≤ 1000) (E : Ends) (σ : L2.St) (H : Hp) (h : tS W ios (sPar is ms) E σ H) : tParN is (tFs W ms) E σ H := by
  obtain ⟨g, env, G, sl, er, h⟩ := h
  refine ⟨g, env, G, er, ?_⟩
  have h2 : AfterS W g G ((evFs ms env).bind fun rs e1 => .ok .next (setAll is rs e1)) E := h
  have h3 := AfterS.split (σ := σ) h2
  cases q : evFs ms env with
  | bad => rw [q] at h3; exact h3
  | exc c e => rw [q] at h3; exact h3
  | ok rs e =>
    rw [q] at h3
    intro G' H' x er' vs hvs
    have hlen : rs.length = ms.length := evFs_len _ _ _ _ q
    have hio : ∀ p ∈ g.io, p.1 ∉ is := fun p hp z => hi _ z (sl p hp)
    have hv : vs.length = is.length := by rw [hvs.length, hlen, hl]
    refine ⟨hv, by rw [hv, hl]; exact hz, fun p hp => ?_, ?_⟩
    · exact h3 G' H' x er' _ G' _ (.refl G') (store_all (er'.alloc hp) (hvs.alloc hp) hio (by rw [hlen, hl]))
    · exact h3 G' H' x er' _ G' _ (.refl G') (store_all er' hvs hio (by rw [hlen, hl]))
/-- by the pair's own tuple -/
theorem gTgs_names {is : List Nat} : ∀ {vs : List V} {σ : L2.St} {H : Hp} {Q : L2.St → Hp → Prop}, vs.length = is.length → Q (setVs is vs σ) H → gTgs K (is.map .nm) vs σ H Q := by
  induction is with
  | nil =>
    intro vs σ H Q hl q
    cases vs with
    | nil => exact ⟨rfl, q⟩
    | cons _ _ => simp at hl
  | cons i is ih =>
    intro vs σ H Q hl q
    cases vs with
    | nil => simp at hl
    | cons v vs => exact ⟨v, vs, rfl, ih (by simpa using hl) q⟩
theorem par_asg {is : List Nat} {ta : TA} (E : Ends) (σ : L2.St) (H : Hp) (mono : ∀ Q Q' : List V → Hp → Prop, (∀ vs H', Q vs H' → Q' vs H') → ta σ H Q → ta σ H Q') (h : tParN is ta E σ H) : tAsg (tTup ta) (gTg K (.tup (is.map .nm))) E σ H := by
  refine mono _ _ (fun vs H1 q => ?_) h
  obtain ⟨hl, hz, h1, _⟩ := q
  refine ⟨Nat.le_trans hz (by decide), fun p hp => ?_⟩
  show gTup K (is.map Tg.nm).length (gTgs K (is.map .nm)) (.ref p) σ _ E.nx
  exact ⟨p, vs, rfl, sqT upd_same, by rw [List.length_map, hl], gTgs_names hl (h1 p hp)⟩
theorem par_two {i j : Nat} {ta : TA} (E : Ends) (σ : L2.St) (H : Hp) (mono : ∀ Q Q' : List V → Hp → Prop, (∀ vs H', Q vs H' → Q' vs H') → ta σ H Q → ta σ H Q') (h : tParN [i, j] ta E σ H) : tPar i j ta E σ H := by
  refine mono _ _ (fun vs H1 q => ?_) h
  obtain ⟨hl, hz, _, h1⟩ := q
  match vs, hl with
  | [v, w], _ => exact ⟨v, w, rfl, h1⟩
theorem par_three {i j l : Nat} {ta : TA} (E : Ends) (σ : L2.St) (H : Hp) (mono : ∀ Q Q' : List V → Hp → Prop, (∀ vs H', Q vs H' → Q' vs H') → ta σ H Q → ta σ H Q') (h : tParN [i, j, l] ta E σ H) : tPar3 i j l ta E σ H := by
  refine mono _ _ (fun vs H1 q => ?_) h
  obtain ⟨hl, hz, _, h1⟩ := q
  match vs, hl with
  | [u, v, w], _ => exact ⟨u, v, w, rfl, h1⟩
theorem fs_mono {ms : List X} (σ : L2.St) (H : Hp) (Q Q' : List V → Hp → Prop) (i : ∀ vs H', Q vs H' → Q' vs H') (h : tFs W ms σ H Q) : tFs W ms σ H Q' := by
  obtain ⟨g, env, G, er, h⟩ := h
  exact ⟨g, env, G, er, h.mono fun rs e G' H' x er' q vs hvs => i _ _ (q vs hvs)⟩
end
end G6

namespace G6
open PySem PySem.Spec L2
section
variable {X : Cx} {p pos : Pos} {x : Str}
/-- X(), X an own exception class -/
theorem pmk_own0 {C : Addr} {bmB : List Value} {B newId initId : String} (F : ExcBaseFacts B newId initId bmB) (q : PySem.W.excIn X.K C bmB newId = true) (gC : X.mg x = some (.ref C)) (kC : PySem.W.keepIn X.K (.ref C) = true) (r : Raises X (.ref C)) (hg : Gl X x)
    (hdb : (x == ("__debug__" : Str)) = false) : PMk X (.Call (.Name x p) [] [] pos) (fun _ H Q => Q (.ref C) none H) := by
  intro pins s σ H Q I h
  refine wpAny_Call_Name_kw (ld_glob I hg gC ?_ hdb)
  refine PySem.W.callWith_K0 I.kIn kC ?_
  show wpAny _ _ (call (.ref C) []) _ _ _
  obtain ⟨bm, N, nm, qn, bs, hdct, sn, sub, ab, col, dd, k0, k1, k2, k3, k5, mN, hC, hN, hni, T⟩ := exc_obj I.kIn q
  refine wpAny_call_exc_subT F T hC hN hni (fun h' e hm => ?_) (by show 0 ≤ sizeLine; exact Nat.zero_le _)
  exact mk_of I hm r h (I.hok.gone hm.new)
/-- f() -/
theorem pe_callS0 {CX : CXT} {k : Nat} {f : Addr} {fd : FuncData} {ps : List Str} {sp : Sp} {E : L2.St → XK} (F : FnOk X.prog X.w X.K X.mg X.base CX k f fd ps sp) (hr : Room k X.A) (hg : Gl X x) (hm : X.mg x = some (.ref f)) (hk : PySem.W.keepIn X.K (.ref f) = true) (hb : Binds X.K fd ps []) (hx : ∀ σ, PassesAt CX X σ (E σ))
    (hdb : (x == ("__debug__" : Str)) = false) : PE X (.Call (.Name x p) [] [] pos) (tCallS sp E tNil) := by
  refine ⟨fun pins s σ H Q I h => ?_⟩
  refine wpAny_Call_Name_kw (ld_glob I hg hm ?_ hdb)
  refine PySem.W.callWith_K0 I.kIn hk ?_
  exact run_fnS F hr hb (hx σ) I .nil h
end

/-! ### raise, try -/
/-- what is wanted, told of classes -/
def wf (mx : Str → Option Value) (W : Wx) : WX := fun cls d σ H => d = none ∧ ∃ c, mx c = some cls ∧ W c σ H
def litV : D → V
  | .bool b => .bl b
  | .int i => .int i
  | .str s => .str s
  | _ => .non
def isLit : D → Bool
  | .none => true
  | .bool _ => true
  | .int _ => true
  | .str _ => true
  | _ => false
theorem lit_rp {G : Hp} {d : D} (h : isLit d = true) : Rp G (litV d) d := by
  cases d with
  | none => exact .non
  | bool b => exact .bl b
  | int i => exact .int i
  | str s => exact .str s
  | _ => cases h
section
variable {W : Wx} {K : PySem.W.Frag} {ios : List Nat} {mx : Str → Option Value}
theorem s_raise {c : Str} {cls : Value} (hc : mx c = some cls) (E : Ends) (σ : L2.St) (H : Hp) (h : tS W ios (sRaise c) E σ H) : wf mx W cls none σ H := by
  obtain ⟨g, env, G, sl, er, h⟩ := h
  exact ⟨rfl, c, hc, h σ G H (.refl G) er⟩
/-- the clauses, told twice -/
inductive HsR (K : PySem.W.Frag) (mx : Str → Option Value) : List (List Str × D) → List (Value × (Addr → Value → Option Addr → TS)) → Prop
  | nil : HsR K mx [] []
  | cons {ns : List Str} {d : D} {C : Value} {hs : List (List Str × D)} {l : List (Value × (Addr → Value → Option Addr → TS))} : isLit d = true → (∀ c cls, mx c = some cls → PySem.W.exmOne K cls C = some (decide (c ∈ ns))) → HsR K mx hs l → HsR K mx ((ns, d) :: hs) ((C, fun _ _ _ => tRet (tC (litV d))) :: l)
def wTry (W : Wx) (hs : List (List Str × D)) (E : Ends) : Wx := fun c σ H => match hs.find? fun h => decide (c ∈ h.1) with
  | some h => E.rt (litV h.2) H
  | none => W c σ H
theorem many_of {hs : List (List Str × D)} {l : List (Value × (Addr → Value → Option Addr → TS))} (r : HsR K mx hs l) (E : Ends) (cls : Value) (d : Option Addr) (σ : L2.St) (H : Hp) (h : wf mx (wTry W hs E) cls d σ H) : wMany K (wf mx W) E l cls d σ H := by
  obtain ⟨hd, c, hc, h⟩ := h
  induction r with
  | nil => exact ⟨hd, c, hc, h⟩
  | @cons ns dd C hs l hl hx r ih =>
    refine ⟨decide (c ∈ ns), hx c cls hc, fun hb a _ => ?_, fun hb => ih ?_⟩
    · unfold wTry at h
      rw [List.find?_cons_of_pos (by simpa using hb)] at h
      exact h
    · unfold wTry at h ⊢
      rw [List.find?_cons_of_neg (by simpa using hb)] at h
      exact h
theorem HsR.lit {hs : List (List Str × D)} {l : List (Value × (Addr → Value → Option Addr → TS))} (r : HsR K mx hs l) : ∀ h ∈ hs, isLit h.2 = true := by
  induction r with
  | nil => intro h hm; cases hm
  | cons hl hx r ih =>
    intro h hm
    rcases List.mem_cons.mp hm with rfl | hm
    · exact hl
    · exact ih h hm
def tBody (mx : Str → Option Value) (ios : List Nat) (b : S) (Wm : WX) : TS := fun E σ H => ∃ W' : Wx, (∀ cls d σ H, wf mx W' cls d σ H → Wm cls d σ H) ∧ tS W' ios b E σ H
theorem s_try {b : S} {hs : List (List Str × D)} {l : List (Value × (Addr → Value → Option Addr → TS))} (r : HsR K mx hs l) (E : Ends) (σ : L2.St) (H : Hp) (h : tS W ios (sTry b hs) E σ H) : tBody mx ios b (wMany K (wf mx W) E l) E σ H := by
  refine ⟨wTry W hs E, many_of r E, ?_⟩
  obtain ⟨g, env, G, sl, er, h⟩ := h
  refine ⟨g, env, G, sl, er, ?_⟩
  unfold sTry at h
  cases q : b env with
  | ok f e => rw [q] at h; cases f <;> exact h
  | bad => rw [q] at h; exact h
  | exc c e =>
    rw [q] at h
    simp only at h
    intro τ G' H' x er'
    unfold wTry
    cases q2 : hs.find? fun h => decide (c ∈ h.1) with
    | none =>
      rw [q2] at h
      exact h τ G' H' x er'
    | some hh =>
      rw [q2] at h
      exact h τ G' H' _ x er' (.inl ⟨rfl, lit_rp (r.lit hh (List.mem_of_find?_eq_some q2))⟩)
end
end G6

namespace G6
open PySem PySem.Spec L2
section
variable {W : Wx} {K : PySem.W.Frag}
/-! ### slices -/
def tOpt (W : Wx) : Option Pk → TO
  | none => tNoPart
  | some p => tPart (tPk W p)
theorem cut_rp {G : Hp} {vs : List V} {ds : List D} (h : RpAll G vs ds) (lo hi : Option Int) : RpAll G (cutV vs lo hi) (cutL ds lo hi) := by
  unfold cutV cutL
  rw [h.length]
  exact (h.drop _).take _
theorem cut_whole {α : Type} (xs : List α) (lo hi : Option Int) (h : HT.sIx xs.length 0 lo = 0 ∧ HT.sIx xs.length xs.length hi = xs.length) : cutL xs lo hi = xs := by
  unfold cutL
  rw [h.1, h.2]
  simp
theorem l_opt {o : Option Pk} {g : Gh} {σ : L2.St} {e : En} {G H : Hp} {k : Option Int → En → Re (D × Bool)} {Q : VK} {R : Option Int → Hp → Prop} (er : Er g e G σ H) (h : After W g G σ ((evI o e).bind k) (fun r e G' H' => ∀ v, Vr g e G' σ H' r v → Q v H'))
    (hk : ∀ (i : Option Int) (e' : En) (G' H' : Hp), Ext G G' → Er g e' G' σ H' → After W g G' σ (k i e') (fun r e G' H' => ∀ v, Vr g e G' σ H' r v → Q v H') → R i H') : tOpt W o σ H R := by
  cases o with
  | none => exact hk none e G H (.refl G) er h
  | some q =>
    refine ⟨g, e, G, er, ?_⟩
    have h2 : After W g G σ ((q.ev e).bind fun t e1 => (match tget e1 t with
      | some (.int i) => Re.ok (some i) e1
      | _ => Re.bad).bind k) (fun r e G' H' => ∀ v, Vr g e G' σ H' r v → Q v H') := by
      have e0 : ((evI (some q) e).bind k) = ((q.ev e).bind fun t e1 => (match tget e1 t with
        | some (.int i) => Re.ok (some i) e1
        | _ => Re.bad).bind k) := by
        simp only [evI]
        cases q.ev e <;> rfl
      rw [← e0]
      exact h
    refine h2.split.mono fun t e1 G1 H1 x1 er1 h w hw => ?_
    cases qz : tget e1 t with
    | none => simp only [qz] at h; exact h.elim
    | some z =>
      have oz := op1_of er1 hw qz
      cases z with
      | int i =>
        simp only [qz] at h
        exact ⟨i, op1_int oz, hk (some i) e1 G1 H1 x1 er1 h⟩
      | _ => simp only [qz] at h; exact h.elim
theorem l_cut {p : Pk} {lo hi : Option Pk} (σ : L2.St) (H : Hp) (Q : VK) (h : tX W (xCut p lo hi) σ H Q) : tSl (fun x lo hi H Q => rSlL K x lo hi H Q ∨ rSlA K x lo hi H Q) (tPk W p) (tOpt W lo) (tOpt W hi) σ H Q := by
  obtain ⟨g, env, G, er, h⟩ := h
  refine ⟨g, env, G, er, ?_⟩
  unfold xCut at h
  refine h.split.mono fun t e1 G1 H1 x1 er1 h v hv => ?_
  refine l_opt er1 h fun io e2 G2 H2 x2 er2 h => ?_
  refine l_opt er2 h fun jo e3 G3 H3 x3 er3 h => ?_
  have hv3 := (hv.ext x2).ext x3
  cases qt : tget e3 t with
  | none => simp only [qt] at h; exact h.elim
  | some d =>
    have oy := op1_of er3 hv3 qt
    simp only [qt] at h
    cases d with
    | list xs =>
      obtain ⟨a, vs, rfl, ra, ha⟩ := op1_list er3.gH oy
      refine .inl ⟨a, vs, rfl, sqL ra, fun p hp => ?_⟩
      obtain ⟨G4, x4, er4, vr⟩ := er3.out (.new hp (.lst (cut_rp ha io jo)))
      exact h G4 _ x4 er4 _ vr
    | tuple xs =>
      obtain ⟨a, vs, rfl, ga, ra, ha⟩ := op1_tuple er3.gH oy
      refine .inr ⟨a, vs, rfl, sqT ra, fun hw => ?_, fun _ p hp => ?_⟩
      · refine h G3 _ (.refl G3) er3 _ (.inl ⟨rfl, ?_⟩)
        rw [ha.length] at hw
        show Rp G3 _ (.tuple (cutL xs io jo))
        rw [cut_whole xs io jo hw]
        exact .tup ga ha
      · obtain ⟨G4, x4, er4, vr⟩ := er3.out (.tup hp (cut_rp ha io jo))
        exact h G4 _ x4 er4 _ vr
    | _ => simp only [pCut] at h; exact h.elim
end
/-! ### t[::-1] -/
section
variable {prog : Program} {w : World} {A : Around} {E : Value → Shared → Prop} {s : Shared}
theorem rev_places (n : Nat) : Builtin.Slice.slicePlaces ((n : Int) - 1) (-1) (-1) = n := by
  unfold Builtin.Slice.slicePlaces
  rw [if_neg (by decide)]
  split
  · rw [show (- -1 : Int) = 1 by decide, Int.ediv_one]; omega
  · omega
theorem rev_adjust (n : Nat) : Builtin.Slice.sliceAdjust none none (-1) (n : Int) = ((n : Int) - 1, -1) := by
  unfold Builtin.Slice.sliceAdjust
  rfl
theorem rev_pick (xs : Array Value) : ((List.range xs.size).filterMap fun (m : Nat) => xs[((xs.size : Int) - 1 + (m : Int) * (-1)).toNat]?) = xs.toList.reverse := by
  have e : ((List.range xs.size).filterMap fun (m : Nat) => xs[((xs.size : Int) - 1 + (m : Int) * (-1)).toNat]?) = ((List.range xs.size).map fun k => xs.size - 1 - k).filterMap (xs[·]?) := by
    rw [List.filterMap_map]
    have go : ∀ (l : List Nat), (∀ k ∈ l, k < xs.size) → (l.filterMap fun (m : Nat) => xs[((xs.size : Int) - 1 + (m : Int) * (-1)).toNat]?) = l.filterMap ((fun x => xs[x]?) ∘ fun k => xs.size - 1 - k) := by
      intro l
      induction l with
      | nil => intro _; rfl
      | cons k l ih =>
        intro hk
        have e : ((xs.size : Int) - 1 + (k : Int) * (-1)).toNat = xs.size - 1 - k := by
          have := hk k List.mem_cons_self
          omega
        rw [List.filterMap_cons, List.filterMap_cons, ih (fun j hj => hk j (List.mem_cons_of_mem _ hj)), e]
        rfl
    exact go _ fun k hk => List.mem_range.mp hk
  rw [e, PySem.W.krv_range, List.filterMap_reverse, PySem.W.krv_all]
theorem sliceApplied_rev {sl : Addr} {vl vu vs : Value} {n : Nat} {Q : Int × Int × Nat → Shared → Prop} (hs : s.heap.IsSliceOf sl vl vu vs) (pl : IsPart vl none) (pu : IsPart vu none) (ps : IsPart vs (some (-1)))
    (h : Q ((n : Int) - 1, -1, n) s) : wpAny (model prog w) A (Builtin.Slice.sliceApplied (.ref sl) (pure (n : Int))) Q E s := by
  obtain ⟨os, hos, hcs, hds⟩ := id hs
  unfold Builtin.Slice.sliceApplied Builtin.Slice.sliceFields
  refine wpAny_bind (wpAny_bind (wpAny_field hos hds (x := vl) rfl (wpAny_bind (wpAny_field hos hds (x := vu) rfl (wpAny_bind (wpAny_field hos hds (x := vs) rfl (wpAny_pure ?_)))))))
  refine wpAny_bind (HT.slicePart_ ps ?_)
  show wpAny _ _ (if ((-1 : Int) == 0) = true then _ else _) _ _ s
  rw [if_neg (by decide)]
  refine wpAny_bind (HT.slicePart_ pl (wpAny_bind (HT.slicePart_ pu (wpAny_bind (wpAny_pure ?_)))))
  show wpAny _ _ (match Builtin.Slice.sliceAdjust none none (-1) (n : Int) with | (lo, hi) => pure (lo, (-1 : Int), Builtin.Slice.slicePlaces lo hi (-1))) _ _ s
  rw [rev_adjust n]
  show wpAny _ _ (pure ((n : Int) - 1, (-1 : Int), Builtin.Slice.slicePlaces ((n : Int) - 1) (-1) (-1))) _ _ s
  rw [rev_places]
  exact wpAny_pure h
theorem getItem_tuple_rev {t sl : Addr} {items : Array Value} {vl vu vs : Value} {Q : Value → Shared → Prop} (ht : PyProof.Rows.IsTup s.heap t items) (hs : s.heap.IsSliceOf sl vl vu vs) (pl : IsPart vl none) (pu : IsPart vu none) (ps : IsPart vs (some (-1)))
    (h : Q (.ref s.heap.objs.size) { s with heap := s.heap.push { cls := .type "tuple", data := .seq items.toList.reverse.toArray } })
    (hsz : items.size ≤ sizeLine) : wpAny (model prog w) A (getItem (.ref t) (.ref sl)) Q E s := by
  have htake : sizeOk (.seq items.toList.reverse.toArray) := by
    show items.toList.reverse.toArray.size ≤ sizeLine
    rw [List.size_toArray, List.length_reverse, Array.length_toList]
    omega
  obtain ⟨os, hos, hcs, hds⟩ := id hs
  have hTs : s.TypeIs (.ref sl) "slice" := ⟨os, hos, hcs⟩
  unfold getItem
  try with_reducible refine wpAny_holding ?_
  first | refine wpAny_bind (wpAny_pure ?_) | skip
  refine wpAny_bind (wpAny_sequenceKey ht.typeIs (by decide) ?_)
  refine wpAny_bind (wpAny_callSpecial?_slot (name := Str.ofString "__getitem__") ht.typeIs PyProof.Rows.slot_tuple_getitem
    (wpAny_call_entry PyProof.Rows.slot_tuple_getitem ht.typeIs PyProof.Rows.entry_tuple_getitem ?_ (PyProof.Rows.args_tuple_getitem _ _)))
  show wpAny _ _ (Builtin.Tuple.tupleItemsOf (.ref t) >>= _) _ _ s
  refine wpAny_bind (PyProof.Rows.tupleItemsOf_ ht ?_)
  refine wpAny_bind (wpAny_typeOf hTs ?_)
  rw [if_pos (by decide)]
  refine wpAny_bind (sliceApplied_rev hs pl pu ps ?_)
  show wpAny _ _ (if (((items.size : Int) - 1) == 0 && (-1 : Int) == 1 && items.size == items.size) = true then _ else _) _ _ s
  rw [if_neg (by rw [show ((-1 : Int) == 1) = false by decide, Bool.and_false, Bool.false_and]; exact Bool.false_ne_true), rev_pick]
  first
    | exact wpAny_bind (m := Builtin.Tuple.tupleExact _) (wpAny_newObj_type (wpAny_pure ⟨_, rfl, wpAny_pure h⟩) htake)
    | exact wpAny_bind (m := Builtin.Tuple.tupleExact _) (wpAny_newObj_type (wpAny_bind (wpAny_pure (wpAny_pure ⟨_, rfl, wpAny_pure h⟩))) htake)
    | exact wpAny_bind (wpAny_bind (m := Builtin.Tuple.tupleExact _) (wpAny_newObj_type (wpAny_pure (wpAny_pure ⟨_, rfl, wpAny_pure h⟩)) htake))
    | exact wpAny_bind (wpAny_bind (m := Builtin.Tuple.tupleExact _) (wpAny_newObj_type (wpAny_pure ⟨_, rfl, wpAny_pure h⟩) htake))
end
section
variable {X : Cx}
def tRevP (te : TE) : TE := fun σ H Q => te σ H fun x H1 => rN pRev [x] H1 Q
theorem pe_rev {e : Expr} {te : TE} {k : Nat} {p1 p2 p3 pos : Pos} (he : PE X e te) : PE X (.Subscript e (.Slice none none (some (.UnaryOp .USub (.Constant (.int 1) k p1) p2)) p3) pos) (tRevP te) := by
  refine ⟨fun pins s σ H Q I h => ?_⟩
  refine PyProof.Rows.Subscript_ (thn (he.run pins s σ H _ I h) fun v s1 ⟨x, H1, I1, r1, q1⟩ => ?_)
  obtain ⟨G, ds, r, sm, ops, hf, q⟩ := q1
  have hst : PO X (some (.UnaryOp .USub (.Constant (.int 1) k p1) p2)) (tPart (tUn (rU fun i => .int (-i)) (tC (.int 1)))) := po_some (pe_un un_neg pe_int)
  refine wpAny_Slice (thn (po_none.run pins s1 σ H1 (fun o H2 => o = none ∧ H2 = H1) I1 ⟨rfl, rfl⟩) fun vl s2 ⟨l, H2, I2, pl, el, e2⟩ => ?_)
  subst el e2
  refine thn (po_none.run pins s2 σ H2 (fun o H3 => o = none ∧ H3 = H2) I2 ⟨rfl, rfl⟩) fun vu s3 ⟨u, H3, I3, pu, eu, e3⟩ => ?_
  subst eu e3
  refine thn (hst.run pins s3 σ H3 (fun o H4 => o = some (-1) ∧ H4 = H3) I3 ⟨1, rfl, -1, rfl, rfl, rfl⟩) fun vs s4 ⟨o, H4, I4, ps, eo, e4⟩ => ?_
  subst eo e4
  have I5 : Inv X pins σ H4 { s4 with heap := s4.heap.push { cls := .type "slice", data := .fields #[vl, vu, vs] } } := I4.kept (t' := s4.toks) fun b ob q => Heap.get?_push_of_some _ q
  cases ops with
  | @cons x xs d ds o1 o2 =>
    cases o2
    cases d with
    | list zs =>
      obtain ⟨a, ws, rfl, ra, ha⟩ := op1_list sm o1
      cases r1
      simp only [pRev, Option.some.injEq] at hf
      subst hf
      obtain ⟨its, r, ht, hz⟩ := I5.list (sqL ra)
      have hlen := r.length
      show wpAny (model X.prog X.w) X.A (PyProof.Rows.subscriptTail e (.Slice none none (some (.UnaryOp .USub (.Constant (.int 1) k p1) p2)) p3) (.ref a) (.ref s4.heap.objs.size)) (EP X pins σ Q) X.xe { s4 with heap := s4.heap.push { cls := .type "slice", data := .fields #[vl, vu, vs] } }
      refine PyProof.Rows.tail_any (ops := [.ref a, .ref s4.heap.objs.size]) ht.isList.typeIs (PySem.slot_list_getitem.lookup) ?_ (by with_unfolding_all rfl)
      refine wpAny_getItem_list_slice ht.isList (Heap.IsSliceOf.new _ vl vu vs) pl pu ps (by decide) ?_ (by rw [List.size_toArray]; omega)
      rw [PySem.W.krv_pick]
      refine ⟨.ref _, _, I5.laid (t' := s4.toks) (o := .lst ws.reverse) (fun b ob q => Heap.get?_push_of_some _ q) (Nat.le_refl _) ?_, rfl, q _ _ (.new (I5.hok.fresh (Nat.le_refl _)) (.lst ha.reverse))⟩
      exact ⟨by rw [List.length_reverse]; exact hz, _, 0, r.reverse, Heap.get?_push_size _ rfl⟩
    | tuple zs =>
      obtain ⟨a, ws, rfl, ga, ra, ha⟩ := op1_tuple sm o1
      cases r1
      simp only [pRev, Option.some.injEq] at hf
      subst hf
      obtain ⟨its, r, ht, hz⟩ := I5.tuple (sqT ra)
      have hlen := r.length
      show wpAny (model X.prog X.w) X.A (PyProof.Rows.subscriptTail e (.Slice none none (some (.UnaryOp .USub (.Constant (.int 1) k p1) p2)) p3) (.ref a) (.ref s4.heap.objs.size)) (EP X pins σ Q) X.xe { s4 with heap := s4.heap.push { cls := .type "slice", data := .fields #[vl, vu, vs] } }
      refine PyProof.Rows.tail_any (ops := [.ref a, .ref s4.heap.objs.size]) ht.typeIs (PyProof.Rows.slot_tuple_getitem.lookup) ?_ (by with_unfolding_all rfl)
      refine getItem_tuple_rev ht (Heap.IsSliceOf.new _ vl vu vs) pl pu ps ?_ (by rw [List.size_toArray]; omega)
      refine ⟨.ref _, _, I5.laid (t' := s4.toks) (o := .tup ws.reverse) (fun b ob q => Heap.get?_push_of_some _ q) (Nat.le_refl _) ?_, rfl, q _ _ (.tup (I5.hok.fresh (Nat.le_refl _)) ha.reverse)⟩
      exact ⟨by rw [List.length_reverse]; exact hz, _, r.reverse, PyProof.Rows.IsTup.new _ _⟩
    | _ => simp [pRev] at hf
theorem l_rev {W : Wx} {p : Pk} (σ : L2.St) (H : Hp) (Q : VK) (h : tX W (xPrim pRev [p]) σ H Q) : tRevP (tPk W p) σ H Q := prim1_of σ H Q h
end
end G6

namespace G6
open PySem PySem.Spec L2
/-! ### {k: v} -/
inductive RpP (G : Hp) : List (V × V) → List (D × D) → Prop
  | nil : RpP G [] []
  | cons {k v : V} {ps : List (V × V)} {a b : D} {ds : List (D × D)} : Rp G k a → Rp G v b → RpP G ps ds → RpP G ((k, v) :: ps) ((a, b) :: ds)
theorem RpP.keys {G : Hp} : ∀ {ps : List (V × V)} {ds : List (D × D)}, RpP G ps ds → (ds.all fun p => flatK p.1) = true → ∃ kvs : List (Key × V), ps = kvs.map (fun kv => (kV kv.1, kv.2)) ∧ RpK G kvs ds
  | _, _, .nil, _ => ⟨[], rfl, .nil⟩
  | _, _, .cons h1 h2 r, f => by
    simp only [List.all_cons, Bool.and_eq_true] at f
    obtain ⟨kvs, rfl, rk⟩ := r.keys f.2
    obtain ⟨k, rfl, rfl⟩ := flat_keyR h1 f.1
    exact ⟨(k, _) :: kvs, rfl, .cons h2 rk⟩
theorem RpK.merge {G : Hp} : ∀ {kvs acc : List (Key × V)} {ds ad : List (D × D)}, RpK G kvs ds → RpK G acc ad → RpK G (mergeK acc kvs) (ds.foldl (fun acc p => dPut acc p.1 p.2) ad)
  | _, _, _, _, .nil, a => a
  | _, _, _, _, @RpK.cons _ k v r d ds h t, a => by
    show RpK G (mergeK (putK _ k v) r) (ds.foldl _ (dPut _ (kD k) d))
    exact t.merge (a.put k h)
section
variable {W : Wx} {K : PySem.W.Frag}
def trsOf (W : Wx) (ps : List (X × X)) : List (TE × TE) := ps.map fun p => (tX W p.1, tX W p.2)
theorem kvs_pairs {g : Gh} {σ : L2.St} : ∀ {ps : List (X × X)} {e : En} {G H : Hp} {Q : List (V × V) → Hp → Prop}, Er g e G σ H → After W g G σ (evKVs ps e) (fun kvs e' G' H' => ∀ vvs, RpP G' vvs kvs → Q vvs H') → tPairs (trsOf W ps) σ H Q
  | [], e, G, H, Q, er, h => h G H (.refl G) er [] .nil
  | (k, v) :: ps, e, G, H, Q, er, h => by
    have h2 : After W g G σ ((k e).bind fun a e1 => (v e1).bind fun b e2 => (evKVs ps e2).bind fun r e3 => .ok ((a.1, b.1) :: r) e3) (fun kvs e' G' H' => ∀ vvs, RpP G' vvs kvs → Q vvs H') := h
    refine ⟨g, e, G, er, h2.split.mono fun a e1 G1 H1 x1 er1 h va hva => ?_⟩
    obtain ⟨G2, x2, er2, ra⟩ := er1.cold hva
    refine ⟨g, e1, G2, er2, (h.ext x2).split.mono fun b e3 G3 H3 x3 er3 h vb hvb => ?_⟩
    obtain ⟨G4, x4, er4, rb⟩ := er3.cold hvb
    refine kvs_pairs er4 ((h.ext x4).split.mono fun kvs e5 G5 H5 x5 er5 h vvs hv => ?_)
    exact h G5 H5 (.refl G5) er5 _ (.cons ((ra.ext (x3.trans x4)).ext x5) (rb.ext x5) hv)
theorem evKVs_len : ∀ (ps : List (X × X)) (e : En) (ds : List (D × D)) (e2 : En), evKVs ps e = .ok ds e2 → ds.length = ps.length := by
  intro ps
  induction ps with
  | nil => intro e ds e2 h; cases h; rfl
  | cons p r ih =>
    intro e ds e2 h
    obtain ⟨k, v⟩ := p
    simp only [evKVs] at h
    cases q : k e with
    | ok a e1 =>
      rw [q] at h
      simp only [Re.bind_ok] at h
      cases q2 : v e1 with
      | ok b e3 =>
        rw [q2] at h
        simp only [Re.bind_ok] at h
        cases q3 : evKVs r e3 with
        | ok c e4 =>
          rw [q3] at h
          simp only [Re.bind_ok] at h
          cases h
          rw [List.length_cons, List.length_cons, ih _ _ _ q3]
        | exc c e4 => rw [q3] at h; cases h
        | bad => rw [q3] at h; cases h
      | exc c e3 => rw [q2] at h; cases h
      | bad => rw [q2] at h; cases h
    | exc c e1 => rw [q] at h; cases h
    | bad => rw [q] at h; cases h
theorem l_dict {ps : List (X × X)} (h15 : ps.length ≤ 15) (σ : L2.St) (H : Hp) (Q : VK) (h : tX W (xDict ps) σ H Q) : tDisp (trsOf W ps) σ H Q := by
  obtain ⟨g, env, G, er, h⟩ := h
  intro p hp
  have er1 : Er (gK g p (.dK []) (dk_ne [])) env G σ (upd H p (.dK [])) := (er.alloc hp).guard upd_same (er.noG hp) (er.noSlot hp)
  have hF := er.noF hp
  refine kvs_pairs er1 ?_
  unfold xDict at h
  have h := h.split
  cases q : evKVs ps env with
  | bad => rw [q] at h; exact h
  | exc c e => rw [q] at h; exact fun G' H' x er' => h G' H' x (er'.unguard hF)
  | ok kvs e =>
    rw [q] at h
    intro G' H' x er' vvs hv
    have fa := er'.fH p (.dK []) (by show upd g.F p _ p = _; rw [upd_same])
    have h2 := h G' H' x (er'.unguard hF)
    dsimp only at h2
    split at h2
    · rename_i hk
      obtain ⟨kk, rfl, rk⟩ := hv.keys hk
      refine ⟨fa.1, kk, rfl, by rw [rk.length, evKVs_len _ _ _ _ q]; exact h15, ?_⟩
      have ns : NotSlot e σ p := fun i d hi hs => by
        obtain ⟨w, w1, _, w3⟩ := er'.sl i true d hi
        obtain ⟨b, rfl, _, w4⟩ := w3 rfl
        rw [w1] at hs
        cases hs
        have w5 : upd g.F p (.dK []) p = none := w4
        rw [upd_same] at w5
        cases w5
      refine h2 G' _ (.refl G') ((er'.unguard hF).updo fa.2 hF ns) _ (.inr ⟨rfl, p, rfl, ⟨fa.2, _, upd_same, .dk (RpK.merge rk .nil)⟩, hF, ns⟩)
    · exact h2.elim
theorem l_dict0 (σ : L2.St) (H : Hp) (Q : VK) (h : tX W (xDict []) σ H Q) : tDNewK σ H Q := by
  obtain ⟨g, env, G, er, h⟩ := h
  intro p hp
  obtain ⟨G2, x2, er2, vr⟩ := er.out (.new hp (.dk (kvs := []) .nil))
  exact h G2 _ x2 er2 _ vr
end
/-! ### isinstance, max, min, str -/
section
variable {X : Cx}
def tyStr : Ty → String
  | .int => "int"
  | .bool => "bool"
  | .str => "str"
  | .tuple => "tuple"
  | .list => "list"
def rIsiP (t : Ty) : List V → Hp → VK → Prop := fun vs H Q => ∃ x, vs = [x, .ty (tyStr t)] ∧ rN (pIsi t) [x] H Q
theorem call_pIsi (t : Ty) : CallR X (.builtin "isinstance") (rIsiP t) := by
  intro pins s σ H xs us Q I r h
  obtain ⟨x, rfl, G, ds, res, sm, ops, hf, hq⟩ := h
  obtain ⟨u1, u2, rfl, r1, r2⟩ := vals2 r
  cases (show u2 = Value.type (tyStr t) from r2)
  cases ops with
  | @cons x xs d ds o1 o2 =>
    cases o2
    simp only [pIsi] at hf
    split at hf
    · cases hf
    · rename_i hp
      have hpl : d.plain = true := by simpa using hp
      simp only [Option.some.injEq] at hf
      subst hf
      obtain ⟨as, rd⟩ := reads_of I (o1.rp sm) hpl r1
      have fin : ∀ (b : Bool) (tk : Nat), Out G H H (.bl b) (.bool b, false) := fun b _ => .old (.bl b)
      cases t with
      | int => exact PySem.W.isinstance_int_data rd fun tk _ => ⟨.bl _, H, I.tok tk, rfl, hq _ _ (.old (.bl _))⟩
      | bool => exact PySem.W.isinstance_bool_data rd fun tk _ => ⟨.bl _, H, I.tok tk, rfl, hq _ _ (.old (.bl _))⟩
      | str => exact PySem.W.isinstance_str_data rd fun tk _ => ⟨.bl _, H, I.tok tk, rfl, hq _ _ (.old (.bl _))⟩
      | tuple => exact PySem.W.isinstance_tuple_data rd fun tk _ => ⟨.bl _, H, I.tok tk, rfl, hq _ _ (.old (.bl _))⟩
      | list => exact PySem.W.isinstance_list_data rd fun tk _ => ⟨.bl _, H, I.tok tk, rfl, hq _ _ (.old (.bl _))⟩
theorem l_isi {W : Wx} {t : Ty} {p : Pk} (σ : L2.St) (H : Hp) (Q : VK) (h : tX W (xPrim (pIsi t) [p]) σ H Q) : tCB (rIsiP t) (tCons (tPk W p) (tCons (tC (.ty (tyStr t))) tNil)) σ H Q := by
  have h1 := prim1_of σ H Q h
  obtain ⟨g, env, G, er, h1⟩ := h1
  exact ⟨g, env, G, er, h1.mono fun t e G' H' x er' h v hv => ⟨v, rfl, h v hv⟩⟩
end
end G6

namespace G6
open PySem PySem.Spec L2
/-! ### sets of objects that are found by a hash of their contents -/
structure Ki (P : Program) (w : World) where
  κ : Type
  de : DecidableEq κ
  is : Heap → κ → Addr → Prop
  hs : κ → Int
  keep : ∀ {h h' : Heap} {k : κ} {b : Addr}, is h k b → (∀ o, h.get? b = some o → h'.get? b = some o) → is h' k b
  noset : ∀ {h : Heap} {k : κ} {b : Addr} {o : Obj} {es : Array (Int × Value)} {ep : Nat} {t : SetTable}, is h k b → h.get? b = some o → o.data = .set es ep t → False
  eqb : ∀ {A : Around} {E : Value → Shared → Prop} {s : Shared} {k k' : κ} {b c : Addr} {Q : Bool → Shared → Prop}, A.units < cLine → is s.heap k b → is s.heap k' c → Q (@decide (k = k') (de k k')) s → wpAny (model P w) A (eqBool (.ref b) (.ref c)) Q E s
  see : ∀ {A : Around} {E : Value → Shared → Prop} {s : Shared} {k : κ} {b : Addr} {ys : List Value} {Q : Bool → Shared → Prop}, is s.heap k b → (∀ y ∈ ys, ∃ k' c, y = Value.ref c ∧ is s.heap k' c) → Q false s → wpAny (model P w) A (searchCouldBeSeen (.ref b) ys) Q E s
  hby : ∀ {A : Around} {E : Value → Shared → Prop} {s : Shared} {k : κ} {b : Addr} {Q : Bool → Shared → Prop}, is s.heap k b → (∀ x, Q x s) → wpAny (model P w) A (hashByValue 8 (.ref b)) Q E s
  hsh : ∀ {A : Around} {E : Value → Shared → Prop} {s : Shared} {k : κ} {b : Addr} {Q : Int → Shared → Prop}, A.units < cLine → is s.heap k b → (∀ tk, s.toks ≤ tk → Q (hs k) { s with toks := tk }) → wpAny (model P w) A (pyHash (.ref b)) Q E s
  one : ∀ {h : Heap} {k k' : κ} {b : Addr}, is h k b → is h k' b → k = k'
section
variable {P : Program} {w : World} {A : Around} {E : Value → Shared → Prop} {s : Shared} {Z : Ki P w}
abbrev Rows (Z : Ki P w) := List (Addr × Z.κ)
def entOf (Z : Ki P w) (p : Addr × Z.κ) : Int × Value := (Z.hs p.2, .ref p.1)
/-- the set at a holds these -/
structure HasK (Z : Ki P w) (h : Heap) (a : Addr) (L : Rows Z) (es : Array (Int × Value)) (ep : Nat) (t : SetTable) : Prop where
  obj : ∃ o, h.get? a = some o ∧ o.ExactSet ∧ o.data = .set es ep t
  ents : es.toList = L.map (entOf Z)
  tab : TabOk t (L.map fun p => Z.hs p.2)
  apart : (L.map (·.2)).Nodup
  all : ∀ p ∈ L, Z.is h p.2 p.1
  led : w.params.followText "set-order" = true ∨ t.led = true
  room : L.length * 5 < t.mask * 3
  few : L.length < 64
variable {a : Addr} {L : Rows Z} {es : Array (Int × Value)} {ep : Nat} {t : SetTable}
theorem ents_size (h : es.toList = L.map (entOf Z)) : es.size = L.length := by
  have := congrArg List.length h
  simpa using this
theorem fits_by (hs : t.place.size = es.size) (hd : t.dummies = #[]) (hm : es.size ≤ t.mask) : t.fits es.size = true := by
  unfold SetTable.fits SetTable.fill
  rw [hd, Bool.and_eq_true, beq_iff_eq, decide_eq_true_eq]
  exact ⟨hs, by show t.place.size + 0 ≤ t.mask; omega⟩
theorem HasK.sz (R : HasK Z s.heap a L es ep t) : t.place.size = es.size ∧ es.size ≤ t.mask := by
  have h1 := R.tab.sz
  have h2 := ents_size R.ents
  have h3 := R.room
  rw [List.length_map] at h1
  omega
theorem HasK.fits (R : HasK Z s.heap a L es ep t) : t.fits es.size = true := fits_by R.sz.1 R.tab.dm R.sz.2
theorem HasK.ent (R : HasK Z s.heap a L es ep t) {i : Nat} {p : Addr × Z.κ} (h : L[i]? = some p) : es[i]? = some (Z.hs p.2, .ref p.1) := by
  have e : es.toList[i]? = some (entOf Z p) := by rw [R.ents, List.getElem?_map, h]; rfl
  simpa [entOf] using e
theorem HasK.tidy (R : HasK Z s.heap a L es ep t) : t.gaveWay = false := by
  unfold SetTable.gaveWay
  have := mask_odd R.tab.mok
  simp [this]
abbrev stepAt (t : SetTable) (h : Int) (c : Nat) : SetTable.Probe := nth t.mask (runAt t.mask (SetTable.bits h % (t.mask + 1)) (SetTable.bits h)) c
theorem step_more (t : SetTable) (h : Int) (c q : Nat) : nth t.mask (stepAt t h c) q = stepAt t h (c + q) := (nth_add t.mask c _ q).symm
theorem step_plain (t : SetTable) (h : Int) : ∀ c, (stepAt t h c).dummy = none := by
  have go : ∀ (n : Nat) (p : SetTable.Probe), p.dummy = none → (nth t.mask p n).dummy = none := by
    intro n
    induction n with
    | zero => exact fun p q => q
    | succ n ih =>
      intro p q
      apply ih
      unfold adv
      split <;> exact q
  exact fun c => go c _ rfl
/-- a search, from the c-th place of its way -/
theorem look_from (R : HasK Z s.heap a L es ep t) {x : Addr} {k : Z.κ} (hx : Z.is s.heap k x) (hu : A.units < cLine) {m : Nat} (m1 : m < 10 * SetTable.turns t.mask) (m2 : way t.mask (Z.hs k) m ∉ t.place.toList) (m3 : ∀ c, c < m → way t.mask (Z.hs k) c ∈ t.place.toList)
    {Q : SetFound → Shared → Prop} (yes : k ∈ L.map (·.2) → Q (.there none) s) (no : k ∉ L.map (·.2) → Q (.free (way t.mask (Z.hs k) m) false) s) :
    ∀ (f c : Nat) (st : Option SetTable.Probe), st.getD (t.probeStart (Z.hs k)) = stepAt t (Z.hs k) c → c ≤ m → m - c < f → (∀ (i : Nat) p, L[i]? = some p → p.2 = k → ∃ c', c ≤ c' ∧ c' < m ∧ t.place.toList[i]? = some (way t.mask (Z.hs k) c')) →
      wpAny (model P w) A (setSearchFrom a (.ref x) (Z.hs k) true f st) Q E s := by
  obtain ⟨o, ho, hex, hd⟩ := R.obj
  intro f
  induction f with
  | zero => intro c st _ _ h; omega
  | succ f ih =>
    intro c st e0 hc hf ahead
    rw [setSearchFrom_succ]
    refine wpAny_bind (wpAny_setState_of ho hd R.fits ?_)
    dsimp only
    refine wp_if_neg (by rw [R.tidy]; exact Bool.false_ne_true) ?_
    try refine wpAny_bind (wpAny_pure ?_)
    have place : ∀ q, (nth t.mask (stepAt t (Z.hs k) c) q).j = way t.mask (Z.hs k) (c + q) := fun q => congrArg SetTable.Probe.j (step_more t (Z.hs k) c q)
    have back : c + (m - c) = m := by omega
    have hash : ∀ (i : Nat) p, L[i]? = some p → (fun i => (es[i]?.map (·.1)).getD 0) i = Z.hs p.2 := fun i p hp => by
      dsimp only
      rw [R.ent hp]
      rfl
    have spec := go_spec t R.tab.ris R.tab.dm (fun i => (es[i]?.map (·.1)).getD 0) (Z.hs k) (10 * SetTable.turns t.mask) (m - c) _ (step_plain t (Z.hs k) c) (by omega) (fun q hq => by rw [place]; exact m3 _ (by omega)) (by rw [place, back]; exact m2)
    rcases spec with ⟨q, i, hq, hi, hh, none_, got⟩ | ⟨none_, got⟩
    · -- one of the same hash
      have got2 : t.probe (fun i => (es[i]?.map (·.1)).getD 0) (Z.hs k) (st.getD (t.probeStart (Z.hs k))) = some (.candidate (way t.mask (Z.hs k) (c + q)) i (stepAt t (Z.hs k) (c + (q + 1)))) := by
        rw [e0, ← place, ← step_more]
        exact got
      rw [got2]
      dsimp only
      rw [place] at hi
      have il : i < L.length := by
        have h1 := (List.getElem?_eq_some_iff.mp hi).1
        have h2 := R.tab.sz
        simp only [List.length_map, Array.length_toList] at h1 h2
        omega
      obtain ⟨p, hp⟩ : ∃ p, L[i]? = some p := ⟨_, List.getElem?_eq_getElem il⟩
      have pm : p ∈ L := List.mem_of_getElem? hp
      have live := slot_live R.tab.ris hi
      have go : wpAny (model P w) A (searchRest a (.ref x) (Z.hs k) true f es t (way t.mask (Z.hs k) (c + q)) i (stepAt t (Z.hs k) (c + (q + 1)))) Q E s := by
        unfold searchRest
        rw [R.ent hp]
        dsimp only
        refine wpAny_bind (wpAny_holding (Z.eqb hu (R.all p pm) hx ?_))
        refine wpAny_bind (wpAny_setState_of ho hd R.fits ?_)
        dsimp only
        by_cases same : p.2 = k
        · refine wp_if_pos (by simp [same]) (wpAny_pure (yes (List.mem_map.mpr ⟨p, pm, same⟩)))
        · refine wp_if_neg (by simp [same]) ?_
          try refine wpAny_bind (wpAny_pure ?_)
          rw [sameMem]
          dsimp only
          simp only [if_true, live, R.ent hp]
          refine wpAny_bind (wpAny_isSame_ref_self (wpAny_bind (wpAny_pure ?_)))
          simp only [if_true]
          refine wp_if_neg (by simp [same]) ?_
          refine ih (c + (q + 1)) _ rfl (by omega) (by omega) fun j r hj hr => ?_
          obtain ⟨c', a1, a2, a3⟩ := ahead j r hj hr
          refine ⟨c', ?_, a2, a3⟩
          have far : ¬ c' < c + q := fun z => none_ (c' - c) j (by omega) (by rw [place, show c + (c' - c) = c' by omega]; exact a3) ((hash j r hj).trans (by rw [hr]))
          have off : c' ≠ c + q := fun z => by
            rw [z] at a3
            have l2 := slot_live R.tab.ris a3
            rw [live] at l2
            injection l2 with l2
            rw [← l2, hp] at hj
            cases hj
            exact same hr
          omega
      by_cases led : t.led = true
      · refine wp_if_neg (by simp [led]) ?_
        try refine wpAny_bind (wpAny_pure ?_)
        exact go
      · refine wp_if_pos (by simp [led]) (wpAny_bind (Z.see hx (fun y hy => ?_) ?_))
        · obtain ⟨e, he, rfl⟩ := List.mem_map.mp hy
          have he2 : e ∈ es.toList := by
            have : e ∈ es ∧ e.1 = Z.hs k := by simpa using he
            simpa using this.1
          rw [R.ents] at he2
          obtain ⟨p2, hp2, rfl⟩ := List.mem_map.mp he2
          exact ⟨p2.2, p2.1, rfl, R.all p2 hp2⟩
        · refine wp_if_neg (by decide) ?_
          try refine wpAny_bind (wpAny_pure ?_)
          exact go
    · -- nowhere
      have got2 : t.probe (fun i => (es[i]?.map (·.1)).getD 0) (Z.hs k) (st.getD (t.probeStart (Z.hs k))) = some (.empty (way t.mask (Z.hs k) m) none) := by
        rw [e0]
        have e2 : way t.mask (Z.hs k) m = (nth t.mask (stepAt t (Z.hs k) c) (m - c)).j := by rw [place, back]
        rw [e2]
        exact got
      rw [got2]
      dsimp only
      refine wpAny_pure (no fun z => ?_)
      obtain ⟨r, hr, er⟩ := List.mem_map.mp z
      obtain ⟨j, hj⟩ := List.getElem?_of_mem hr
      obtain ⟨c', a1, a2, a3⟩ := ahead j r hj er
      exact none_ (c' - c) j (by omega) (by rw [place, show c + (c' - c) = c' by omega]; exact a3) ((hash j r hj).trans (by rw [er]))
theorem look_at (R : HasK Z s.heap a L es ep t) {x : Addr} {k : Z.κ} (hx : Z.is s.heap k x) (hu : A.units < cLine) {Q : SetFound → Shared → Prop} (yes : k ∈ L.map (·.2) → Q (.there none) s)
    (no : ∀ m, k ∉ L.map (·.2) → way t.mask (Z.hs k) m ∉ t.place.toList → (∀ c, c < m → way t.mask (Z.hs k) c ∈ t.place.toList) → Q (.free (way t.mask (Z.hs k) m) false) s) :
    wpAny (model P w) A (setSearch a (.ref x) (Z.hs k) true) Q E s := by
  have rm := R.room
  obtain ⟨m, m1, m2, m3⟩ := R.tab.first (by rw [List.length_map]; omega) (Z.hs k)
  have small : 10 * SetTable.turns t.mask ≤ 1420 := by
    unfold SetTable.turns
    rcases R.tab.mok with e | e | e <;> omega
  unfold setSearch
  refine look_from R hx hu m1 m2 m3 yes (fun z => no m z m2 m3) 100000 0 none rfl (Nat.zero_le _) (by omega) fun i p hp hk => ?_
  have hi : (L.map fun p => Z.hs p.2)[i]? = some (Z.hs k) := by
    rw [List.getElem?_map, hp, ← hk]
    rfl
  have il : i < t.place.toList.length := by
    have h1 := get_lt hp
    have h2 := R.tab.sz
    simp only [List.length_map, Array.length_toList] at h2 ⊢
    omega
  obtain ⟨c, c1, c2⟩ := R.tab.before m2 hi (List.getElem?_eq_getElem il)
  exact ⟨c, Nat.zero_le _, c1, by rw [List.getElem?_eq_getElem il, c2]⟩
theorem is_other {h h' : Heap} {k : Z.κ} {b : Addr} {o : Obj} (hb : Z.is h k b) (ho : h.get? a = some o) (hd : o.data = .set es ep t) (hs : Heap.SameBut a h h') : Z.is h' k b :=
  Z.keep hb fun q e => by
    have ne : b ≠ a := by
      rintro rfl
      exact Z.noset hb ho hd
    rw [hs.2 b ne]
    exact e
/-- the rows in another order -/
theorem rows_by (L : Rows Z) (es : Array (Int × Value)) (order : Array Nat) (he : es.toList = L.map (entOf Z)) (hp : order.toList.Perm (List.range L.length)) :
    ∃ L2 : Rows Z, (order.filterMap (es[·]?)).toList = L2.map (entOf Z) ∧ L2.Perm L ∧ (L2.map fun p => Z.hs p.2) = order.toList.map fun i => (es.map (·.1)).getD i 0 := by
  have get : ∀ i : Nat, es[i]? = (L[i]?).map (entOf Z) := fun i => by
    have : es.toList[i]? = (L[i]?).map (entOf Z) := by rw [he, List.getElem?_map]
    simpa using this
  refine ⟨order.toList.filterMap (fun i : Nat => L[i]?), ?_, ?_, ?_⟩
  · have e1 : (order.filterMap (es[·]?)).toList = order.toList.filterMap (fun i : Nat => (L[i]?).map (entOf Z)) := by
      simp only [Array.toList_filterMap, get]
    rw [e1, List.map_filterMap]
  · have e2 := hp.filterMap (fun i : Nat => L[i]?)
    have e3 : (List.range L.length).filterMap (fun i : Nat => L[i]?) = L := PySem.List.filterMap_getElem?_range_length L
    rw [e3] at e2
    exact e2
  · have inr : ∀ i ∈ order.toList, i < L.length := fun i hi => List.mem_range.mp (hp.mem_iff.mp hi)
    generalize order.toList = l at inr
    induction l with
    | nil => rfl
    | cons i l ih =>
      have il := inr i List.mem_cons_self
      rw [List.filterMap_cons_some (List.getElem?_eq_getElem il), List.map_cons, List.map_cons, ih fun j hj => inr j (List.mem_cons_of_mem _ hj)]
      congr 1
      have e5 : (es.map (·.1))[i]? = some (Z.hs (L[i]).2) := by
        rw [Array.getElem?_map, get, List.getElem?_eq_getElem il]
        rfl
      simp [Array.getD_eq_getD_getElem?, e5]
/-- a larger table -/
theorem grow_at {o : Obj} (ho : s.heap.get? a = some o) (hex : o.ExactSet) (hd : o.data = .set es ep t) (he : es.toList = L.map (entOf Z)) (hsz : t.place.size = es.size) (hdm : t.dummies = #[]) (hfl : es.size ≤ t.mask)
    (nd : (L.map (·.2)).Nodup) (all : ∀ p ∈ L, Z.is s.heap p.2 p.1) (ld : w.params.followText "set-order" = true ∨ t.led = true) (few : L.length < 64) {n M : Nat}
    (hw : SetTable.sizeAbove n - 1 = M) (hM : MaskOk M) (hw2 : SetTable.sizeAbove n ≤ 128) (hn : L.length * 5 < M * 3) {Q : Unit → Shared → Prop}
    (hQ : ∀ h' L' es' ep' t', Heap.SameBut a s.heap h' → HasK Z h' a L' es' ep' t' → L'.Perm L → Q () { s with heap := h' }) : wpAny (model P w) A (setRelay a n) Q E s := by
  have sl := ents_size he
  obtain ⟨t', order, e, hp, T, em, el, ep', ed⟩ := relaid_ok t (hs := es.map (·.1)) (wanted := n) hw hM (by rw [Array.size_map, sl]; omega)
  rw [Array.size_map, sl] at hp
  obtain ⟨L2, r1, r2, r3⟩ := rows_by L es order he hp
  rw [← r3] at T
  have s2 : (order.filterMap (es[·]?)).size = es.size := by rw [ents_size r1, r2.length_eq, sl]
  rw [setRelay_eq]
  refine wpAny_bind (wpAny_setState_of ho hd (fits_by hsz hdm hfl) ?_)
  dsimp only
  refine wp_if_neg (by rw [sizeLine_eq]; omega) ?_
  try refine wpAny_bind (wpAny_pure ?_)
  rw [e]
  dsimp only
  refine wpAny_bind (wp_if_neg (by rw [s2]; simp) ?_)
  try refine wpAny_bind (wpAny_pure ?_)
  refine wpAny_pure ?_
  dsimp only
  refine wpAny_storeSet_of ho hd ?_ (by rw [s2, sl, sizeLine_eq]; omega)
  have sb : Heap.SameBut a s.heap (s.heap.update a (Obj.putSet (order.filterMap (es[·]?)) t')) := Heap.SameBut.update ..
  refine hQ _ L2 (order.filterMap (es[·]?)) (ep + 1) t' sb { obj := ⟨_, store_at ho hd, ⟨hex.1, hex.2.1, hex.2.2⟩, rfl⟩, ents := r1, tab := T, apart := (r2.map (·.2)).nodup_iff.mpr nd, all := fun p hpm => is_other (all p (r2.mem_iff.mp hpm)) ho hd sb, led := ?_, room := ?_, few := ?_ } r2
  · rw [el]; exact ld
  · rw [r2.length_eq, em]; exact hn
  · rw [r2.length_eq]; exact few
end
end G6

namespace G6
open PySem PySem.Spec L2
section
variable {P : Program} {w : World} {A : Around} {E : Value → Shared → Prop} {s : Shared} {Z : Ki P w} {a : Addr} {L : Rows Z} {es : Array (Int × Value)} {ep : Nat} {t : SetTable}
/-- one more -/
theorem put_at (R : HasK Z s.heap a L es ep t) {x : Addr} {k : Z.κ} (hx : Z.is s.heap k x) (hu : A.units < cLine) (hfew : L.length + 1 < 64) {Q : Bool → Shared → Prop}
    (hQ : ∀ b h' L' es' ep' t', Heap.SameBut a s.heap h' → HasK Z h' a L' es' ep' t' → (k ∈ L.map (·.2) → L' = L) → (k ∉ L.map (·.2) → L'.Perm ((x, k) :: L)) → Q b { s with heap := h' }) :
    wpAny (model P w) A (setAddHashed a (.ref x) (Z.hs k)) Q E s := by
  obtain ⟨o, ho, hex, hd⟩ := R.obj
  have sl := ents_size R.ents
  have rm := R.room
  unfold setAddHashed
  refine wpAny_holding ?_
  rw [show (100000 : Nat) = 99999 + 1 from rfl, setAddHashedIn_succ]
  refine wpAny_bind (wpAny_setState_of ho hd R.fits ?_)
  dsimp only
  refine wp_if_neg (by simp [byScan, Value.scannable]) ?_
  try refine wpAny_bind (wpAny_pure ?_)
  refine wpAny_bind (look_at R hx hu (fun hm => ?_) fun m hm m2 m3 => ?_)
  · dsimp only
    exact wpAny_pure (hQ false s.heap L es ep t (Heap.SameBut.refl a s.heap) R (fun _ => rfl) fun z => absurd hm z)
  · dsimp only
    refine wpAny_bind (wpAny_setState_of ho hd R.fits ?_)
    dsimp only
    obtain ⟨q1, q2, q3, q4, q5, q6, q7, q8, q9⟩ := R.tab.put m2 m3
    generalize t.put (way t.mask (Z.hs k) m) = pt at q1 q3 q4 q5 q6 q7 q8 q9 ⊢
    obtain ⟨t0, p⟩ := pt
    dsimp only at q1 q3 q4 q5 q6 q7 q8 q9 ⊢
    subst q1
    -- whether the table's order is the hashes' alone is told, or not
    have told : ∀ {g : Bool → Sem Bool}, (∀ b, wpAny (model P w) A (g b) Q E s) → wpAny (model P w) A (if t0.plain = true then hashByValue 8 (.ref x) >>= g else pure true >>= g) Q E s := by
      intro g hg
      by_cases hp : t0.plain = true
      · exact wp_if_pos hp (wpAny_bind (Z.hby hx hg))
      · exact wp_if_neg hp (wpAny_bind (wpAny_pure (hg true)))
    refine told fun byv => ?_
    have same : ∃ t1 : SetTable, (if byv = true then t0 else { t0 with plain := false }) = t1 ∧ t1.place = t0.place ∧ t1.dummies = t0.dummies ∧ t1.mask = t0.mask ∧ t1.led = t0.led := by
      cases byv
      · exact ⟨_, rfl, rfl, rfl, rfl, rfl⟩
      · exact ⟨_, rfl, rfl, rfl, rfl, rfl⟩
    obtain ⟨t1, e1, u1, u2, u3, u4⟩ := same
    have q3 : TabOk t1 ((L.map fun p => Z.hs p.2).take (SetTable.below t.place (way t.mask (Z.hs k) m)) ++ Z.hs k :: (L.map fun p => Z.hs p.2).drop (SetTable.below t.place (way t.mask (Z.hs k) m))) := by
      obtain ⟨c1, c2, c3, c4, c5, c6⟩ := q3
      exact ⟨by rw [u1]; exact c1, by rw [u2]; exact c2, by rw [u1]; exact c3, by rw [u3]; exact c4, by rw [u1, u3]; exact c5, by rw [u1, u3]; exact c6⟩
    have q4 : t1.mask = t.mask := by rw [u3, q4]
    have q5 : t1.led = t.led := by rw [u4, q5]
    have q9 : t1.fill = (L.map fun p => Z.hs p.2).length + 1 := by
      have := q3.sz
      unfold SetTable.fill
      rw [q3.dm, this]
      simp
      omega
    simp only [e1]
    have ins : (SetTable.insertAt es (SetTable.below t.place (way t.mask (Z.hs k) m)) (Z.hs k, Value.ref x)).toList = (L.take (SetTable.below t.place (way t.mask (Z.hs k) m)) ++ (x, k) :: L.drop (SetTable.below t.place (way t.mask (Z.hs k) m))).map (entOf Z) := by
      rw [SetTable.toList_insertAt, R.ents]
      simp [entOf, List.map_take, List.map_drop]
    generalize SetTable.below t.place (way t.mask (Z.hs k) m) = p at q2 q3 ins ⊢
    have pm := put_perm L p (x, k)
    have hashes : (L.take p ++ (x, k) :: L.drop p).map (fun p => Z.hs p.2) = (L.map fun p => Z.hs p.2).take p ++ Z.hs k :: (L.map fun p => Z.hs p.2).drop p := by
      simp [List.map_take, List.map_drop]
    rw [← hashes] at q3
    generalize L.take p ++ (x, k) :: L.drop p = L1 at pm q3 ins
    have len1 : L1.length = L.length + 1 := pm.length_eq
    have nd1 : (L1.map (·.2)).Nodup := (pm.map (·.2)).nodup_iff.mpr (by
      rw [List.map_cons]
      exact List.nodup_cons.mpr ⟨hm, R.apart⟩)
    generalize SetTable.insertAt es p (Z.hs k, Value.ref x) = es1 at ins ⊢
    have size1 : es1.size = L.length + 1 := (ents_size ins).trans len1
    refine wpAny_bind (wpAny_storeSet_of ho hd ?_ (by rw [size1, sizeLine_eq]; omega))
    have sb : Heap.SameBut a s.heap (s.heap.update a (Obj.putSet es1 t1)) := Heap.SameBut.update ..
    have ho1 := store_at (es' := es1) (t' := t1) ho hd
    generalize s.heap.update a (Obj.putSet es1 t1) = h1 at sb ho1 ⊢
    have all1 : ∀ p ∈ L1, Z.is h1 p.2 p.1 := fun p hp => by
      rcases List.mem_cons.mp (pm.mem_iff.mp hp) with rfl | hp
      · exact is_other hx ho hd sb
      · exact is_other (R.all p hp) ho hd sb
    have led1 : w.params.followText "set-order" = true ∨ t1.led = true := by rw [q5]; exact R.led
    by_cases full : t1.tooFull = true
    · first
        | (refine wpAny_bind ?_; refine wp_if_pos (by simp [full]) ?_)
        | (refine wp_if_pos (by simp [full]) ?_; refine wpAny_bind ?_)
      have brim : (L.length + 1) * 5 ≥ t1.mask * 3 := by
        have h := full
        unfold SetTable.tooFull at h
        rw [decide_eq_true_eq, q9, List.length_map] at h
        exact h
      rw [sl]
      have place1 : t1.place.size = es1.size := by
        have h := q3.sz
        rw [List.length_map] at h
        rw [h, size1, len1]
      have which : (t.mask = 7 ∧ L.length = 4) ∨ (t.mask = 31 ∧ L.length = 18) := by
        rcases R.tab.mok with e | e | e
        · rw [q4, e] at brim; rw [e] at rm; exact .inl ⟨e, by omega⟩
        · rw [q4, e] at brim; rw [e] at rm; exact .inr ⟨e, by omega⟩
        · rw [q4, e] at brim; omega
      have go : ∀ M, SetTable.sizeAbove (SetTable.grown (L.length + 1)) - 1 = M → MaskOk M → SetTable.sizeAbove (SetTable.grown (L.length + 1)) ≤ 128 → (L.length + 1) * 5 < M * 3 →
          wpAny (model P w) A (setRelay a (SetTable.grown (L.length + 1))) (fun _ s' => wpAny (model P w) A (pure true) Q E s') E { s with heap := h1 } := by
        intro M g1 g2 g3 g4
        refine grow_at (s := { s with heap := h1 }) ho1 ⟨hex.1, hex.2.1, hex.2.2⟩ rfl ins place1 q3.dm (by rw [size1, q4]; rcases which with ⟨e, e2⟩ | ⟨e, e2⟩ <;> omega) nd1 all1 led1 (by rw [len1]; exact hfew) g1 g2 g3 (by rw [len1]; exact g4) ?_
        intro h2 L2 es2 ep2 t2 sb2 R2 pm2
        exact wpAny_pure (hQ true h2 L2 es2 ep2 t2 (sb.trans sb2) R2 (fun z => absurd z hm) fun _ => pm2.trans pm)
      rcases which with ⟨_, e2⟩ | ⟨_, e2⟩
      · exact go 31 (by rw [e2, size_20]) (.inr (.inl rfl)) (by rw [e2, size_20]; decide) (by omega)
      · exact go 127 (by rw [e2, size_76]) (.inr (.inr rfl)) (by rw [e2, size_76]; decide) (by omega)
    · first
        | refine wp_if_neg (by simp [full]) ?_
        | (refine wpAny_bind ?_; refine wp_if_neg (by simp [full]) ?_; refine wpAny_pure ?_)
      refine wpAny_pure (hQ true h1 L1 es1 (ep + 1) t1 sb { obj := ⟨_, ho1, ⟨hex.1, hex.2.1, hex.2.2⟩, rfl⟩, ents := ins, tab := q3, apart := nd1, all := all1, led := led1, room := ?_, few := by rw [len1]; exact hfew } (fun z => absurd z hm) fun _ => pm)
      have h := full
      unfold SetTable.tooFull at h
      rw [decide_eq_true_eq, q9, List.length_map] at h
      rw [len1]
      omega
/-! ### set(..) -/
/-- what is in the set behind the first i items -/
structure Met {κ : Type} (ks : List (Addr × κ)) (i : Nat) (L : List (Addr × κ)) : Prop where
  from_ : ∀ p ∈ L, p ∈ ks.take i
  each : ∀ p ∈ ks.take i, p.2 ∈ L.map (·.2)
  short : L.length ≤ i
theorem Met.next {κ : Type} {ks L L' : List (Addr × κ)} {i : Nat} {x : Addr × κ} (g : Met ks i L) (h : ks[i]? = some x) (h1 : x.2 ∈ L.map (·.2) → L' = L) (h2 : x.2 ∉ L.map (·.2) → L'.Perm (x :: L)) : Met ks (i + 1) L' := by
  have tk := take_next h
  by_cases hm : x.2 ∈ L.map (·.2)
  · rw [h1 hm]
    refine ⟨fun p hp => ?_, fun p hp => ?_, Nat.le_succ_of_le g.short⟩
    · rw [tk]; exact List.mem_append_left _ (g.from_ p hp)
    · rw [tk] at hp
      rcases List.mem_append.mp hp with z | z
      · exact g.each p z
      · rw [List.mem_singleton.mp z]; exact hm
  · have pm := h2 hm
    refine ⟨fun p hp => ?_, fun p hp => ?_, by rw [pm.length_eq]; exact Nat.succ_le_succ g.short⟩
    · rw [tk]
      rcases List.mem_cons.mp (pm.mem_iff.mp hp) with rfl | z
      · exact List.mem_append_right _ (List.mem_singleton.mpr rfl)
      · exact List.mem_append_left _ (g.from_ p z)
    · rw [(pm.map (·.2)).mem_iff, List.map_cons]
      rw [tk] at hp
      rcases List.mem_append.mp hp with z | z
      · exact List.mem_cons_of_mem _ (g.each p z)
      · rw [List.mem_singleton.mp z]; exact List.mem_cons_self
theorem HasK.still {h h' : Heap} (R : HasK Z h a L es ep t) (ha : ∀ o, h.get? a = some o → h'.get? a = some o) (ht : ∀ p ∈ L, Z.is h' p.2 p.1) : HasK Z h' a L es ep t := by
  obtain ⟨o, ho, r⟩ := R.obj
  exact { obj := ⟨o, ha o ho, r⟩, ents := R.ents, tab := R.tab, apart := R.apart, all := ht, led := R.led, room := R.room, few := R.few }
theorem has_new {h : Heap} (ho : h.get? a = some { cls := .type "set", dict := none, data := .set #[] 0 (.fresh 0 0 (!w.params.followText "set-order")) }) : HasK Z h a [] #[] 0 (.fresh 0 0 (!w.params.followText "set-order")) := by
  refine { obj := ⟨_, ho, ⟨rfl, rfl, rfl⟩, rfl⟩, ents := rfl, tab := ⟨List.Pairwise.nil, rfl, rfl, .inl rfl, fun x hx => (by cases hx), fun i h j hi => (by simp at hi)⟩, apart := List.nodup_nil, all := fun p hp => (by cases hp), led := ?_, room := ?_, few := ?_ }
  · cases e : w.params.followText "set-order" with
    | true => exact .inl rfl
    | false => exact .inr rfl
  · show 0 * 5 < 7 * 3
    decide
  · show 0 < 64
    decide
/-- the loop of set's update -/
theorem fill_loop {I : Addr} {fp wr : List Addr} {G : Array GenState → Array GenState → Prop} {n : Nat} {Pv : Nat → Value → Prop} {St : Nat → Shared → Prop} {R : Result → Shared → Prop}
    (W : WalksS P w A.in1 I fp wr G n Pv St) (S : Addr) (hSf : S ∉ fp) (ks : Rows Z) (hn : n = ks.length) (hfew : ks.length < 64) (hval : ∀ i v, Pv i v → ∃ p, ks[i]? = some p ∧ v = .ref p.1)
    (h0 : Heap) (hk : ∀ p ∈ ks, Z.is h0 p.2 p.1) (hS0 : h0.get? S = none) (hw0 : ∀ b ∈ wr, h0.get? b = none) (hu : A.in1.units < cLine) :
    ∀ (k i : Nat) (s : Shared), n - i = k → i ≤ n → St i s → (∀ b o, h0.get? b = some o → s.heap.get? b = some o) → (∃ L es ep t, HasK Z s.heap S L es ep t ∧ Met ks i L) →
      (∀ s' L es ep t, Moved (S :: wr) G s s' → HasK Z s'.heap S L es ep t → Met ks n L → (∀ b o, h0.get? b = some o → s'.heap.get? b = some o) → R (.ok (.ret .none)) s') →
      codeAny (model P w) A (.builtin "set.update.loop" ⟨[.ref S, .ref I], []⟩) R s := by
  have apart : S ∉ wr := fun h => hSf (W.sub _ h)
  have wide : ∀ b ∈ wr, b ∈ S :: wr := fun b hb => List.mem_cons_of_mem _ hb
  have old : ∀ {s s' : Shared}, Moved wr G s s' → (∀ b o, h0.get? b = some o → s.heap.get? b = some o) → ∀ b o, h0.get? b = some o → s'.heap.get? b = some o := by
    intro s s' hm hkp b o e
    refine hm.heap b o (fun hb => ?_) (hkp b o e)
    rw [hw0 b hb] at e
    cases e
  intro k
  induction k with
  | zero =>
    rintro i s hk' hi hst hkp ⟨L, es, ep, t, hS, g⟩ hR
    obtain rfl : i = n := by omega
    refine codeAny_builtin PyProof.Rows.F.entry_set_update_loop ?_
    rw [Around.under_plainId PyProof.Rows.F.plain_set_update_loop _]
    show wpAny _ A.in1 (pyNext (.ref I) >>= _) _ _ s
    refine wpAny_bind (W.done s _ _ hst fun s' hm => ?_)
    show wpAny _ A.in1 (ret Value.none) _ _ s'
    have hkp' := old hm hkp
    refine wpAny_pure (hR s' L es ep t (hm.mono wide) (hS.still (fun o e => hm.heap S o apart e) fun p hp => ?_) g hkp')
    exact Z.keep (hk p (List.mem_of_mem_take (g.from_ p hp))) fun o e => hkp' _ o e
  | succ k ih =>
    rintro i s hk' hi hst hkp ⟨L, es, ep, t, hS, g⟩ hR
    have hlt : i < n := by omega
    refine codeAny_builtin PyProof.Rows.F.entry_set_update_loop ?_
    rw [Around.under_plainId PyProof.Rows.F.plain_set_update_loop _]
    show wpAny _ A.in1 (pyNext (.ref I) >>= _) _ _ s
    refine wpAny_bind (W.item i s _ _ hlt hst fun v s' hP hst' hm => ?_)
    obtain ⟨p, hp, rfl⟩ := hval i v hP
    have hkp' := old hm hkp
    have hS' : HasK Z s'.heap S L es ep t := hS.still (fun o e => hm.heap S o apart e) fun q hq => Z.keep (hk q (List.mem_of_mem_take (g.from_ q hq))) fun o e => hkp' _ o e
    have hx : Z.is s'.heap p.2 p.1 := Z.keep (hk p (List.mem_of_getElem? hp)) fun o e => hkp' _ o e
    show wpAny _ A.in1 (holding [Value.ref p.1] (setAdd S (.ref p.1)) >>= _) _ _ s'
    refine wpAny_bind (wpAny_holding ?_)
    unfold setAdd
    refine wpAny_holding (wpAny_bind (Z.hsh hu hx fun tk htk => ?_))
    refine put_at (s := { s' with toks := tk }) hS' hx hu (by have := g.short; omega) fun b h' L' es' ep' t' hsb hS2 c1 c2 => ?_
    have hkp2 : ∀ b o, h0.get? b = some o → h'.get? b = some o := fun b o e => (hsb.2 b (fun z => by rw [z, hS0] at e; cases e)).trans (hkp' b o e)
    refine wpAny_pure ⟨plainId_quiet PyProof.Rows.F.plain_set_update_loop _, ih (i + 1) _ (by omega) hlt (W.frame _ s' _ _ hst' htk fun b hb o e => ?_) hkp2 ⟨L', es', ep', t', hS2, g.next hp c1 c2⟩ fun s'' L2 es2 ep2 t2 hm'' hS'' g'' hkp'' => ?_⟩
    · rw [hsb.2 b (fun h : b = S => hSf (by rw [← h]; exact hb))]; exact e
    · refine hR s'' L2 es2 ep2 t2 (Moved.trans W.gtrans ((hm.mono wide).then_heap htk fun b o hb e => ?_) hm'') hS'' g'' hkp''
      rw [hsb.2 b (fun h : b = S => hb (by rw [h]; exact List.mem_cons_self))]; exact e
end
end G6

namespace G6
open PySem PySem.Spec L2
open PyProof.Rows
section
variable {P : Program} {w : World} {A : Around} {E : Value → Shared → Prop} {s : Shared} {Z : Ki P w}
/-- a list or a tuple of these values -/
def SeqAt (h : Heap) (T : String) (l : Addr) (items : Array Value) : Prop := ∃ (d : Option Addr) (n : Nat) (sl : Array (Option Value)), h.get? l = some { cls := .type T, dict := d, data := .seq items n, slots := sl }
theorem SeqAt.isList {h : Heap} {l : Addr} {items : Array Value} (x : SeqAt h "list" l items) : h.IsList l items := let ⟨_, n, _, e⟩ := x; ⟨_, e, rfl, n, rfl⟩
theorem SeqAt.isTuple {h : Heap} {l : Addr} {items : Array Value} (x : SeqAt h "tuple" l items) : h.IsTuple l items := let ⟨_, n, _, e⟩ := x; ⟨_, e, rfl, n, rfl⟩
abbrev newSet (w : World) : Obj := { cls := .type "set", dict := none, data := .set #[] 0 (.fresh 0 0 (!w.params.followText "set-order")) }
theorem call_set_of {T : String} {l : Addr} {items : Array Value} (ks : Rows Z) {Q : Value → Shared → Prop} (hh : A.handled = none) (hT : T = "list" ∨ T = "tuple") (hl : SeqAt s.heap T l items) (hit : items.toList = ks.map fun p => Value.ref p.1)
    (hk : ∀ p ∈ ks, Z.is s.heap p.2 p.1) (hfew : ks.length < 64) (hu : A.units + 3 < cLine)
    (h : ∀ (h' : Heap) (tk : Nat) (L : Rows Z) es ep t, HasK Z h' s.heap.objs.size L es ep t → Met ks ks.length L → (∀ b o, s.heap.get? b = some o → h'.get? b = some o) → Q (.ref s.heap.objs.size) { s with heap := h', toks := tk }) :
    wpAny (model P w) A (call (.type "set") [.ref l]) Q E s := by
  have hisz : items.size = ks.length := by
    have q := congrArg List.length hit
    simpa using q
  obtain ⟨c, tl, hmro⟩ := PySem.F.called_set.mro
  have hmade := PySem.F.called_set.made
  have hsub := PySem.F.called_set.sub
  refine wpAny_call (codeAny_of_tree ?_)
  show wpAny _ _ (callAny (.type "set") _) _ _ _
  refine wpAny_pure ⟨Code.quiet_builtin _ (by decide +kernel), codeAny_builtin PySem.F.entry_type_call ?_⟩
  rw [Around.under_plain (weight_type_call_type "set" [.ref l] []) rfl]
  have h1 := PySem.F.called_set.notType
  have h2 := PySem.F.called_set.canCreate
  have hct := PySem.F.typeCall_set_1 (.ref l)
  repeat (any_goals (first | assumption | wp_step))
  refine codeAny_mono (code_set_led1 (.ref l) (E := E) (Q₁ := fun obj s₁ => obj = .ref s.heap.objs.size ∧ s₁ = { s with heap := s.heap.push (newSet w) }) ⟨rfl, rfl⟩) fun r s₁ hr => ?_
  cases r with
  | error e => exact hr
  | ok fl =>
    cases fl with
    | ret obj =>
      obtain ⟨rfl, rfl⟩ := hr
      have hS : (s.heap.push (newSet w)).get? s.heap.objs.size = some (newSet w) := Heap.get?_push_size _ rfl
      have hTs : Shared.TypeIs { s with heap := s.heap.push (newSet w) } (.ref s.heap.objs.size) "set" := ⟨_, hS, rfl⟩
      have hli := PySem.F.called_set.init.lookup
      have hbi := PySem.F.called_set.init.bind (.ref s.heap.objs.size)
      repeat (any_goals (first | assumption | wp_step))
      refine codeAny_mono (codeAny_call_builtin (R := wants (fun r s₂ => r = .none ∧ ∃ h' tk L es ep t, s₂ = { s with heap := h', toks := tk } ∧ HasK Z h' s.heap.objs.size L es ep t ∧ Met ks ks.length L ∧
          (∀ b o, s.heap.get? b = some o → h'.get? b = some o)) E) PySem.F.called_set.init.plain F.entry_set_init (check_set_init_1 hTs ?_)) fun r₂ s₂ hr₂ => ?_
      · obtain ⟨od, nl, osl, hol⟩ := id hl
        have hol' : (s.heap.push (newSet w)).get? l = some { cls := .type T, dict := od, data := .seq items nl, slots := osl } := Heap.get?_push_of_some _ hol
        have hsls : isSubtype (.type T) (.type "set") = pure false := by
          rcases hT with rfl | rfl
          · exact PySem.F.sub_list_set
          · exact PySem.F.sub_tuple_set
        have hslf : isSubtype (.type T) (.type "frozenset") = pure false := by
          rcases hT with rfl | rfl
          · exact PySem.F.sub_list_frozenset
          · exact PySem.F.sub_tuple_frozenset
        have hne : (Value.type T == Value.type "dict") = false := by
          rcases hT with rfl | rfl <;> decide
        have hl1 : SeqAt (s.heap.push (newSet w)) T l items := ⟨_, _, _, hol'⟩
        unfold Builtin.«set.__init__» noKeywords Builtin.Frozenset.updateFrom
        generalize hPI : pyIter = PI
        wp_walk
        subst hPI
        have hlS : l < s.heap.objs.size := Heap.lt_size hol
        have hh3 : A.in1.in1.in1.handled = none := by simp [hh]
        have far : l ≠ (s.heap.push (newSet w)).objs.size := by
          rw [Heap.size_push]; exact Nat.ne_of_lt (Nat.lt_succ_of_lt hlS)
        have out : s.heap.objs.size ∉ [(s.heap.push (newSet w)).objs.size, l] := by
          rw [Heap.size_push]
          simp only [List.mem_cons, List.not_mem_nil, or_false, not_or]
          exact ⟨Nat.ne_of_lt (Nat.lt_succ_self _), Nat.ne_of_gt hlS⟩
        have hval : ∀ (i : Nat) (v : Value), items[i]? = some v → ∃ p, ks[i]? = some p ∧ v = .ref p.1 := fun i v hv => by
          have q : items.toList[i]? = some v := by simpa using hv
          rw [hit, List.getElem?_map, Option.map_eq_some_iff] at q
          obtain ⟨p, q1, q2⟩ := q
          exact ⟨p, q1, q2.symm⟩
        have gone : ∀ b, s.heap.objs.size ≤ b → s.heap.get? b = none := fun b hb => by
          cases q : s.heap.get? b with
          | none => rfl
          | some o => exact absurd (Nat.lt_of_lt_of_le (Heap.lt_size q) hb) (Nat.lt_irrefl _)
        have wall : ∀ b ∈ [(s.heap.push (newSet w)).objs.size], s.heap.get? b = none := fun b hb => gone b (by
          rw [List.mem_singleton.mp hb, Heap.size_push]
          exact Nat.le_succ _)
        have back : ∀ (s0 s' : Shared) (L : Rows Z) es ep t, Moved (s.heap.objs.size :: [(s.heap.push (newSet w)).objs.size]) (fun a b => b = a) s0 s' → s0.gens = s.gens → s0.drawn = s.drawn → s0.os = s.os → HasK Z s'.heap s.heap.objs.size L es ep t → Met ks items.size L → (∀ b o, s.heap.get? b = some o → s'.heap.get? b = some o) →
            ∃ h' tk L es ep t, s' = { s with heap := h', toks := tk } ∧ HasK Z h' s.heap.objs.size L es ep t ∧ Met ks ks.length L ∧ (∀ b o, s.heap.get? b = some o → h'.get? b = some o) := by
          intro s0 s' L es ep t hm g0 d0 o0 hS' g' hkp
          obtain ⟨h', g2, d', tk', os'⟩ := s'
          have eg : g2 = s.gens := hm.gens.trans g0
          have ed : d' = s.drawn := hm.drawn.trans d0
          have eo : os' = s.os := hm.os.trans o0
          subst eg ed eo
          rw [hisz] at g'
          exact ⟨h', tk', L, es, ep, t, rfl, hS', g', hkp⟩
        rcases hT with rfl | rfl
        · refine wpAny_pyIter_list hl1.isList ?_
          refine wpAny_bind (wpAny_runValue ?_)
          refine fill_loop ((Walks.list hh3 _ l far items).toS) s.heap.objs.size out ks hisz hfew hval s.heap hk (gone _ (Nat.le_refl _)) wall hu (items.size - 0) 0 _ (by omega) (Nat.zero_le _)
            ⟨⟨_, Heap.get?_push_size _ rfl, rfl, rfl⟩, (hl1.isList.push _)⟩ (fun b o e => Heap.get?_push_of_some _ (Heap.get?_push_of_some _ e)) ⟨[], #[], 0, _, has_new (Heap.get?_push_of_some _ hS), ⟨fun p hp => (by cases hp), fun p hp => (by simp at hp), Nat.le_refl _⟩⟩ ?_
          intro s' L es ep t hm hS' g' hkp
          show wpAny _ _ _ _ _ _
          refine wpAny_pure ?_
          show wpAny _ _ (ret Value.none) _ _ _
          exact wpAny_pure ⟨rfl, back _ s' L es ep t hm rfl rfl rfl hS' g' hkp⟩
        · refine wpAny_pyIter_tuple hl1.isTuple ?_
          refine wpAny_bind (wpAny_runValue ?_)
          refine fill_loop ((Walks.tuple hh3 _ l far items).toS) s.heap.objs.size out ks hisz hfew hval s.heap hk (gone _ (Nat.le_refl _)) wall hu (items.size - 0) 0 _ (by omega) (Nat.zero_le _)
            ⟨⟨_, Heap.get?_push_size _ rfl, rfl, rfl⟩, (hl1.isTuple.push _)⟩ (fun b o e => Heap.get?_push_of_some _ (Heap.get?_push_of_some _ e)) ⟨[], #[], 0, _, has_new (Heap.get?_push_of_some _ hS), ⟨fun p hp => (by cases hp), fun p hp => (by simp at hp), Nat.le_refl _⟩⟩ ?_
          intro s' L es ep t hm hS' g' hkp
          show wpAny _ _ _ _ _ _
          refine wpAny_pure ?_
          show wpAny _ _ (ret Value.none) _ _ _
          exact wpAny_pure ⟨rfl, back _ s' L es ep t hm rfl rfl rfl hS' g' hkp⟩
      · cases r₂ with
        | error e => exact hr₂
        | ok fl₂ =>
          cases fl₂ with
          | ret r =>
            obtain ⟨rfl, h', tk, L, es, ep, t, rfl, hS', g', hk'⟩ := hr₂
            repeat (any_goals (first | assumption | wp_step))
            exact h _ _ _ _ _ _ hS' g' hk'
          | _ => exact hr₂.elim
    | _ => exact hr.elim
end
end G6

namespace G6
open PySem PySem.Spec L2
/-! ### tuples of keys in a set -/
section
variable {P : Program} {w : World} {A : Around} {E : Value → Shared → Prop} {s : Shared}
theorem key_plain {k : Key} {v : Value} (h : (mixKind P w).is k v = true) : (∀ n, ofAClassStatement n v = pure false) ∧ ∀ n, ∃ b, hashByValue n v = pure b := by
  rcases keyIs_shape h with ⟨i, t, _, rfl⟩ | ⟨x, t, _, rfl⟩
  · exact ⟨fun n => by cases n <;> rfl, fun n => ⟨true, by cases n <;> rfl⟩⟩
  · exact ⟨fun n => by cases n <;> rfl, fun n => ⟨false, by cases n <;> rfl⟩⟩
theorem keys_plain {ks : List Key} {vs : List Value} (h : ItemsAre (mixKind P w) ks vs) : ∀ v ∈ vs, (∀ n, ofAClassStatement n v = pure false) ∧ ∀ n, ∃ b, hashByValue n v = pure b := by
  induction h with
  | nil => intro v hv; cases hv
  | cons h1 _ ih =>
    intro v hv
    rcases List.mem_cons.mp hv with rfl | hv
    · exact key_plain h1
    · exact ih v hv
theorem class_tup {k : List Key} {b : Addr} {Q : Bool → Shared → Prop} (hk : IsTupleKey (mixKind P w) s.heap k b) (h : Q false s) : wpAny (model P w) A (ofAClassStatement 8 (.ref b)) Q E s := by
  have ty := hk.typeIs
  obtain ⟨o, items, n, ho, _, hd, hi⟩ := hk
  unfold ofAClassStatement
  refine wpAny_bind (wpAny_typeOf ty ?_)
  dsimp only
  simp only [show (("tuple" : String) == "tuple") = true by decide, if_true, Bool.not_true, Bool.false_eq_true, if_false]
  try refine wpAny_bind (wpAny_pure ?_)
  try simp only [Bool.not_true, Bool.false_eq_true, if_false]
  show wpAny _ _ (seqItems? (.ref b) >>= _) _ _ s
  refine wpAny_bind (wpAny_seqItems ho hd ?_)
  dsimp only
  refine wpAny_bind ?_
  show wpAny _ _ (forIn items _ _) _ _ s
  rw [← Array.forIn_toList]
  refine wpAny_forIn_list _ (fun rest r t => r.1 = none ∧ t = s ∧ ∀ v ∈ rest, ∀ n, ofAClassStatement n v = pure false) _ ?_ ?_ _ _ ⟨rfl, rfl, fun v hv => (keys_plain hi v hv).1⟩
  · rintro v rest r t ⟨hr, rfl, hall⟩
    rw [hall v List.mem_cons_self]
    refine wpAny_bind (wpAny_pure ?_)
    simp only [Bool.false_eq_true, if_false]
    exact wpAny_pure ⟨rfl, rfl, fun u hu => hall u (List.mem_cons_of_mem _ hu)⟩
  · rintro ⟨r1, r2⟩ t ⟨hr, rfl, _⟩
    simp only at hr
    subst hr
    exact wpAny_pure h
theorem value_tup {k : List Key} {b : Addr} {Q : Bool → Shared → Prop} (hk : IsTupleKey (mixKind P w) s.heap k b) (h : ∀ x, Q x s) : wpAny (model P w) A (hashByValue 8 (.ref b)) Q E s := by
  have ty := hk.typeIs
  obtain ⟨o, items, n, ho, _, hd, hi⟩ := hk
  unfold hashByValue
  refine wpAny_bind (wpAny_specialOf ty PySem.F.slot_tuple_hash.lookup ?_)
  show wpAny _ _ (seqItems? (.ref b) >>= _) _ _ s
  refine wpAny_bind (wpAny_seqItems ho hd ?_)
  refine wpAny_bind ?_
  show wpAny _ _ (forIn items _ _) _ _ s
  rw [← Array.forIn_toList]
  refine wpAny_forIn_list _ (fun rest r t => r.1 = none ∧ t = s ∧ ∀ v ∈ rest, ∀ n, ∃ b, hashByValue n v = pure b) _ ?_ ?_ _ _ ⟨rfl, rfl, fun v hv => (keys_plain hi v hv).2⟩
  · rintro v rest r t ⟨hr, rfl, hall⟩
    obtain ⟨c, hc⟩ := hall v List.mem_cons_self 7
    rw [hc]
    refine wpAny_bind (wpAny_pure ?_)
    cases c with
    | true =>
      simp only [Bool.not_true, Bool.false_eq_true, if_false]
      exact wpAny_pure ⟨rfl, rfl, fun u hu => hall u (List.mem_cons_of_mem _ hu)⟩
    | false =>
      simp only [Bool.not_false, if_true]
      exact wpAny_pure (wpAny_pure (h false))
  · rintro ⟨r1, r2⟩ t ⟨hr, rfl, _⟩
    simp only at hr
    subst hr
    exact wpAny_pure (h true)
theorem see_tup {k : List Key} {b : Addr} {ys : List Value} {Q : Bool → Shared → Prop} (hk : IsTupleKey (mixKind P w) s.heap k b) (hy : ∀ y ∈ ys, ∃ k' c, y = Value.ref c ∧ IsTupleKey (mixKind P w) s.heap k' c) (h : Q false s) :
    wpAny (model P w) A (searchCouldBeSeen (.ref b) ys) Q E s := by
  unfold searchCouldBeSeen
  refine wpAny_bind ?_
  refine wpAny_forIn_list _ (fun rest r t => r.1 = none ∧ t = s ∧ ∀ y ∈ rest, ∃ k' c, y = Value.ref c ∧ IsTupleKey (mixKind P w) s.heap k' c) _ ?_ ?_ _ _ ⟨rfl, rfl, hy⟩
  · rintro v rest r t ⟨hr, rfl, hall⟩
    obtain ⟨k', c, rfl, hc⟩ := hall v List.mem_cons_self
    have more : ∀ y ∈ rest, ∃ k' c, y = Value.ref c ∧ IsTupleKey (mixKind P w) t.heap k' c := fun u hu => hall u (List.mem_cons_of_mem _ hu)
    dsimp only
    by_cases hv : (b == c || (carriedByValue (.ref b) && carriedByValue (.ref c))) = true
    · exact wp_if_pos hv (wpAny_pure ⟨rfl, rfl, more⟩)
    · refine wp_if_neg hv (wpAny_bind (wpAny_eqIsQuiet_tuple hk ?_))
      simp only [Bool.not_true, Bool.false_eq_true, if_false]
      refine wpAny_bind (wpAny_eqIsQuiet_tuple hc ?_)
      simp only [Bool.not_true, Bool.false_eq_true, if_false]
      refine wpAny_bind (class_tup hk ?_)
      simp only [Bool.false_eq_true, if_false]
      refine wpAny_bind (class_tup hc ?_)
      simp only [Bool.false_eq_true, if_false]
      exact wpAny_pure ⟨rfl, rfl, more⟩
  · rintro ⟨r1, r2⟩ t ⟨hr, rfl, _⟩
    simp only at hr
    subst hr
    exact wpAny_pure h
def tupKi (P : Program) (w : World) : Ki P w where
  κ := List Key
  de := inferInstance
  is := fun h k b => IsTupleKey (mixKind P w) h k b
  hs := fun k => tupleKeyHash (mixKind P w) k
  keep := fun ⟨o, items, n, ho, r⟩ k => ⟨o, items, n, k o ho, r⟩
  noset := fun ⟨o, items, n, ho, _, hd, _⟩ e d => by
    rw [ho] at e
    cases e
    rw [hd] at d
    cases d
  eqb := fun hu h1 h2 q => wpAny_eqBool_tuple hu h1 h2 q
  see := see_tup
  hby := value_tup
  hsh := fun hu hk q => wpAny_pyHash_tuple hu hk (q _ (Nat.le_add_right _ _))
  one := fun h1 h2 => h1.inj h2
end
end G6

namespace G6
open PySem PySem.Spec L2 PySem.W
/-! ### the order of data -/
abbrev dLe (a b : D) : Bool := dataLe false (fun d : D => d) a b
theorem dLe_eq (a b : D) : dLe a b = !dataLt b a := rfl
theorem dLe_trans (a b c : D) (h1 : dLe a b = true) (h2 : dLe b c = true) : dLe a c = true := by
  rw [dLe_eq] at *
  simp only [Bool.not_eq_true'] at *
  cases q : dataLt c a with
  | false => rfl
  | true =>
    rcases PyProof.Rows.lex_negTrans (O := PyProof.Rows.itemOrd) (keyToks c) (keyToks b) (keyToks a) q with h | h
    · exact absurd (show dataLt c b = true from h) (by rw [h2]; exact Bool.false_ne_true)
    · exact absurd (show dataLt b a = true from h) (by rw [h1]; exact Bool.false_ne_true)
theorem dLe_total (a b : D) : (dLe a b || dLe b a) = true := by
  rw [dLe_eq, dLe_eq]
  cases q : dataLt b a with
  | false => rfl
  | true =>
    cases q2 : dataLt a b with
    | false => rfl
    | true =>
      have := PyProof.Rows.lex_trans (O := PyProof.Rows.itemOrd) _ _ _ q q2
      rw [PyProof.Rows.lex_irrefl] at this
      cases this
theorem toks_inj {x y : D} (al : alike x y = true) (h : keyToks x = keyToks y) : PyData.eqv x y = true := by
  cases q : PyData.eqv x y with
  | true => rfl
  | false =>
    exfalso
    have e := (toks_eqv x y al).2 q [] [Sum.inl 0]
    rw [h, lex_pre, PyProof.Rows.lex_irrefl] at e
    cases e
theorem dLe_anti {x y : D} (al : alike x y = true) (h1 : dLe x y = true) (h2 : dLe y x = true) : PyData.eqv x y = true := by
  rw [dLe_eq] at h1 h2
  simp only [Bool.not_eq_true'] at h1 h2
  exact toks_inj al (PyProof.Rows.lex_total (O := PyProof.Rows.itemOrd) _ _ h2 h1)
theorem sortD_perm {xs ys : List D} (p : xs.Perm ys) (al : ∀ a ∈ ys, ∀ b ∈ ys, alike a b = true) (eq : ∀ a ∈ ys, ∀ b ∈ ys, PyData.eqv a b = true → a = b) : sortD xs = sortD ys := by
  unfold sortD
  refine List.Perm.eq_of_pairwise (le := fun a b => dLe a b = true) (fun a b ha hb h1 h2 => ?_) (List.pairwise_mergeSort dLe_trans dLe_total xs) (List.pairwise_mergeSort dLe_trans dLe_total ys) ((List.mergeSort_perm xs _).trans (p.trans (List.mergeSort_perm ys _).symm))
  have ma : a ∈ ys := p.mem_iff.mp ((List.mergeSort_perm xs _).mem_iff.mp ha)
  have mb : b ∈ ys := (List.mergeSort_perm ys _).mem_iff.mp hb
  exact eq a ma b mb (dLe_anti (al a ma b mb) h1 h2)
/-! ### tuples of keys as data -/
def Dk (k : List Key) : D := .tuple (k.map kD)
theorem Dk_eqv (k k' : List Key) : PyData.eqv (Dk k) (Dk k') = decide (k = k') := eqv_tkey k k'
def dd : List (List Key) → List (List Key)
  | [] => []
  | k :: ks => k :: (dd ks).filter fun j => !decide (j = k)
theorem dd_data : ∀ ks : List (List Key), dedup (ks.map Dk) = (dd ks).map Dk
  | [] => rfl
  | k :: ks => by
    simp only [List.map_cons, dedup, dd, dd_data ks]
    rw [List.filter_map]
    congr 2
    apply List.filter_congr
    intro j _
    simp [Function.comp, Dk_eqv]
theorem dd_mem : ∀ (ks : List (List Key)) (k : List Key), k ∈ dd ks ↔ k ∈ ks
  | [], k => by simp [dd]
  | j :: ks, k => by
    simp only [dd, List.mem_cons, List.mem_filter, dd_mem ks k, Bool.not_eq_true', decide_eq_false_iff_not]
    by_cases h : k = j <;> simp [h]
theorem dd_nodup : ∀ ks : List (List Key), (dd ks).Nodup
  | [] => .nil
  | j :: ks => by
    simp only [dd]
    refine List.nodup_cons.mpr ⟨by simp, (dd_nodup ks).filter _⟩
theorem strs_key {G : Hp} {v : V} {d : D} (h : Rp G v d) (s : isStrs d = true) : ∃ (b : Addr) (k : List Key), v = .ref b ∧ d = Dk k ∧ G b = some (.tup (k.map kV)) := by
  cases d with
  | tuple ds =>
    have flat : ds.all flatK = true := by
      cases ds with
      | nil => rfl
      | cons x r =>
        simp only [isStrs, Bool.and_eq_true, List.all_eq_true] at s
        simp only [List.all_cons, Bool.and_eq_true, List.all_eq_true]
        have go : ∀ z : D, isStrD z = true → flatK z = true := by
          intro z hz
          cases z <;> simp [isStrD, flatK] at hz ⊢
        exact ⟨go _ s.1, fun z hz => go z (s.2 z hz)⟩
    cases h with
    | @tup a vs _ ga ha =>
      obtain ⟨ks, rfl, rfl⟩ := keys_of ha flat
      exact ⟨a, ks, rfl, rfl, ga⟩
  | _ => simp [isStrs] at s
theorem strs_keys {G : Hp} : ∀ {vs : List V} {ds : List D}, RpAll G vs ds → ds.all isStrs = true → ∃ ks : List (Addr × List Key), vs = ks.map (fun p => V.ref p.1) ∧ ds = ks.map (fun p => Dk p.2) ∧ ∀ p ∈ ks, G p.1 = some (.tup (p.2.map kV))
  | _, _, .nil, _ => ⟨[], rfl, rfl, by simp⟩
  | _, _, .cons h r, s => by
    simp only [List.all_cons, Bool.and_eq_true] at s
    obtain ⟨b, k, rfl, rfl, g⟩ := strs_key h s.1
    obtain ⟨ks, rfl, rfl, gs⟩ := strs_keys r s.2
    refine ⟨(b, k) :: ks, rfl, rfl, fun p hp => ?_⟩
    rcases List.mem_cons.mp hp with rfl | hp
    · exact g
    · exact gs p hp
/-- what a set of them holds -/
theorem met_perm {ks L : List (Addr × List Key)} (m : Met ks ks.length L) (nd : (L.map (·.2)).Nodup) : (L.map (·.2)).Perm (dd (ks.map (·.2))) := by
  refine (List.perm_ext_iff_of_nodup nd (dd_nodup _)).mpr fun k => ?_
  rw [dd_mem]
  constructor
  · intro h
    obtain ⟨p, hp, rfl⟩ := List.mem_map.mp h
    exact List.mem_map.mpr ⟨p, List.mem_of_mem_take (m.from_ p hp), rfl⟩
  · intro h
    obtain ⟨p, hp, rfl⟩ := List.mem_map.mp h
    exact m.each p (by rw [List.take_length]; exact hp)
/-! ### sorted of what comes in some order -/
section
variable {prog : Program} {w : World} {A : Around} {E : Value → Shared → Prop} {s : Shared}
def Collects2 (prog : Program) (w : World) (s : Shared) (v : Value) (P : List Value → Prop) : Prop :=
  ∀ (A : Around) (E : Value → Shared → Prop) (Q : List Value → Shared → Prop), A.handled = none → (∀ vs s1, P vs → (∀ b o, s.heap.get? b = some o → s1.heap.get? b = some o) → s1.gens = s.gens → s1.os = s.os → Q vs s1) → wpAny (model prog w) A (collect v) Q E s
set_option maxHeartbeats 2000000 in
open PyProof.Rows in
theorem sorted_gen2 {v : Value} {ds : List D} {P : List Value → Prop} {R : Value → D → Prop} {Q : Value → Shared → Prop} (hh : A.handled = none) (hc : Collects2 prog w s v P)
    (hP : ∀ vs, P vs → ∃ es : List D, sortD es = sortD ds ∧ vs.length ≤ sizeLine ∧ EachIs R vs es ∧ EachIs (fun u d => ∃ as, Reads s.heap u d as) vs es ∧ AllAlike es ∧ SortX es ∧ ∀ d, d ∈ es → A.units + 2 + d.depth < cLine)
    (h : ∀ (out : List Value) (s1 s2 : Shared) (p : Addr), EachIs R out (sortD ds) → (∀ b o, s.heap.get? b = some o → s1.heap.get? b = some o) → s1.gens = s.gens → s1.os = s.os → (∀ b o, s1.heap.get? b = some o → s2.heap.get? b = some o) → s2.gens = s.gens → s2.os = s.os → s1.heap.objs.size ≤ p → (∃ n, s2.heap.get? p = some (seqObj "list" out.toArray n)) → Q (.ref p) s2) :
    wpAny (model prog w) A (call (.builtin "sorted") [v]) Q E s := by
  refine call_function_entry_kw kind_sorted plain_sorted entry_sorted (args_sorted1 v) ?_
  unfold Builtin.«sorted»
  refine wpAny_bind (m := checkCount "sorted" 1 1 _) (wpAny_pure ?_)
  refine wpAny_bind (hc A.in1 _ _ hh fun vs s1 hp k1 g1 o1 => ?_)
  obtain ⟨h1, gn, dr, tk, os1⟩ := s1
  dsimp only at k1 g1 o1
  obtain ⟨es, ed, hz, e, er, hal, hk, hu⟩ := hP vs hp
  refine wpAny_bind (wpAny_newList ?_ hz)
  have at1 : (h1.push (seqObj "list" vs.toArray 0)).get? h1.objs.size = some (seqObj "list" vs.toArray 0) := Heap.get?_push_size _ rfl
  have old : ∀ b o, h1.get? b = some o → b ≠ h1.objs.size ∧ (h1.push (seqObj "list" vs.toArray 0)).get? b = some o := fun b o eo => ⟨Nat.ne_of_lt (Heap.lt_size eo), Heap.get?_push_of_some _ eo⟩
  have er2 : EachIs (fun u d => ∃ as, Reads (sortingHeap (h1.push (seqObj "list" vs.toArray 0)) h1.objs.size vs) u d as) vs es := er.mono fun _ _ ⟨as, r⟩ => ⟨as, PyProof.Rows.Reads.keeps (fun b o eo => sortingHeap_old (old b o (k1 b o eo)).1 (old b o (k1 b o eo)).2) r⟩
  have S : SortsAt prog w A.in1.in1 ⟨sortingHeap (h1.push (seqObj "list" vs.toArray 0)) h1.objs.size vs, gn, dr, tk, os1⟩ (dataKind (sortingHeap (h1.push (seqObj "list" vs.toArray 0)) h1.objs.size vs) es) vs :=
    sortsX (s := ⟨sortingHeap (h1.push (seqObj "list" vs.toArray 0)) h1.objs.size vs, gn, dr, tk, os1⟩) er2 hal hk hu
  refine wpAny_bind (wpAny_holding (wpAny_call_entry_kw slot_list_sort ⟨_, at1, rfl⟩ entry_list_sort (list_sort_vals (s := ⟨h1.push (seqObj "list" vs.toArray 0), gn, dr, tk, os1⟩) at1 S hz ⟨_, rfl, ?_⟩) (args_list_sort _)))
  refine wpAny_pure ⟨_, rfl, ?_⟩
  refine h (sortVals (dataKind (sortingHeap (h1.push (seqObj "list" vs.toArray 0)) h1.objs.size vs) es) false vs vs) ⟨h1, gn, dr, tk, os1⟩ _ _ ?_ k1 g1 o1 (fun b o eo => ?_) g1 o1 (Nat.le_refl _) (sortedHeap_at at1)
  · have q := sortVals_data (h' := sortingHeap (h1.push (seqObj "list" vs.toArray 0)) h1.objs.size vs) (enc := fun d : D => d) false e er2 (by simpa using hal)
    rw [← ed]
    simpa [sortD] using q
  · show (sortedHeap (h1.push (seqObj "list" vs.toArray 0)) h1.objs.size vs _).get? b = some o
    rw [sortedHeap_old (old b o eo).1 (Heap.lt_size (old b o eo).2)]
    exact (old b o eo).2
end
end G6

namespace G6
open PySem PySem.Spec L2
section
variable {X : Cx}
theorem star_ofS {e : Expr} {es : List Expr} (h : notStar e = true) (env : Env) : starEach (e :: es) env = (false, eval e env) :: starEach es env := by
  cases e <;> first | rfl | cases h
/-- the rows of a set of tuples of texts -/
theorem tup_is {pins : List (Addr × Obj)} {σ : L2.St} {H : Hp} {s : Shared} {b : Addr} {k : List Key} (I : Inv X pins σ H s) (h : H b = some (.tup (k.map kV))) : IsTupleKey (mixKind X.prog X.w) s.heap k b := key_of I.hok h
theorem refs_vals : ∀ {ks : List (Addr × List Key)} {us : List Value}, Vals (ks.map fun p => V.ref p.1) us → us = ks.map fun p => Value.ref p.1
  | [], _, .nil => rfl
  | p :: ks, _, .cons r t => by
    cases r
    rw [refs_vals t]
    rfl
theorem setOk_of {xs : List D} (h : setOk xs = true) : xs.all isStrs = true ∧ xs.length < 64 := by
  simpa [setOk] using h
/-- set(xs): the set at a new place -/
theorem make_set {pins : List (Addr × Obj)} {σ : L2.St} {G H : Hp} {s : Shared} {v : V} {u : Value} {d : D} {xs : List D} {Q : Value → Shared → Prop} (hc : X.calm = true) (hu : X.A.units + 64 < cLine) (I : Inv X pins σ H s) (sm : Same G H) (o : Op1 G H v d) (hd : d = .list xs ∨ d = .tuple xs) (r : RelV v u) (ok : setOk xs = true)
    (h : ∀ (ks : List (Addr × List Key)) (s' : Shared) (a : Addr) (L : List (Addr × List Key)) (es : Array (Int × Value)) (ep : Nat) (t : SetTable), xs = ks.map (fun p => Dk p.2) → (∀ p ∈ ks, G p.1 = some (.tup (p.2.map kV))) → Inv X pins σ H s' → HasK (tupKi X.prog X.w) s'.heap a L es ep t → Met ks ks.length L → Q (.ref a) s') :
    wpAny (model X.prog X.w) X.A (call (.type "set") [u]) Q X.xe s := by
  obtain ⟨ok1, ok2⟩ := setOk_of ok
  have go : ∀ {T : String} {l : Addr} {its : List Value} {vs : List V}, (T = "list" ∨ T = "tuple") → SeqAt s.heap T l its.toArray → Vals vs its → RpAll G vs xs → u = .ref l → wpAny (model X.prog X.w) X.A (call (.type "set") [u]) Q X.xe s := by
    intro T l its vs hT hs rv ra hu'
    subst hu'
    obtain ⟨ks, rfl, e2, g2⟩ := strs_keys ra ok1
    have e1 := refs_vals rv
    have e3 : its.toArray.toList = ks.map fun p => Value.ref p.1 := by rw [List.toList_toArray]; exact e1
    have e4 : ks.length < 64 := by
      have := congrArg List.length e2
      rw [List.length_map] at this
      omega
    refine call_set_of (Z := tupKi X.prog X.w) ks (I.ok.hd hc) hT hs e3 (fun p hp => tup_is I (sm _ _ (g2 p hp))) e4 (by omega) fun h' tk L es ep t R g k => ?_
    exact h ks _ _ L es ep t e2 g2 (I.kept k) R g
  rcases hd with rfl | rfl
  · obtain ⟨l, vs, rfl, ra, ha⟩ := op1_list sm o
    cases r
    obtain ⟨z, its, n, rv, e, gt⟩ := lstR I ra
    exact go (.inl rfl) ⟨_, _, _, gt⟩ rv ha rfl
  · obtain ⟨l, vs, rfl, _, ra, ha⟩ := op1_tuple sm o
    cases r
    obtain ⟨its, rv, ⟨ob, ho, hcl, n, hdd⟩, z⟩ := I.tuple (sqT (K := X.K) ra)
    obtain ⟨c1, c2, c3, c4⟩ := ob
    simp only at hcl hdd
    subst hcl hdd
    exact go (.inr rfl) ⟨_, _, _, ho⟩ rv ha rfl
/-- the items of the set, in some order -/
theorem collects_set {s : Shared} {a : Addr} {L : List (Addr × List Key)} {es : Array (Int × Value)} {ep : Nat} {t : SetTable} (R : HasK (tupKi X.prog X.w) s.heap a L es ep t) : Collects2 X.prog X.w s (.ref a) (fun us => us.Perm (L.map fun p => Value.ref p.1)) := fun A E Q hh hq => by
  obtain ⟨o, ho, hex, hd⟩ := R.obj
  have sl := ents_size R.ents
  have fw := R.few
  refine collect_set hh ⟨o, ho, hex.1, hd⟩ R.fits (by unfold scanBound; omega) R.tab.ris R.led fun s' out k _ g os pm => hq out s' ?_ k g os
  have e : es.toList.map (·.2) = L.map fun p => Value.ref p.1 := by
    have e0 : es.toList = L.map fun p => (tupleKeyHash (mixKind X.prog X.w) p.2, Value.ref p.1) := R.ents
    rw [e0, List.map_map]
    rfl
  rw [← e]
  exact pm
open PySem.W in
theorem each_perm {R : Value → D → Prop} {L : List (Addr × List Key)} (hR : ∀ p ∈ L, R (.ref p.1) (Dk p.2)) : ∀ {us : List Value}, us.Perm (L.map fun p => Value.ref p.1) → ∃ M : List (Addr × List Key), us = M.map (fun p => Value.ref p.1) ∧ M.Perm L ∧ EachIs R us (M.map fun p => Dk p.2) := by
  intro us pm
  obtain ⟨M, e, p⟩ : ∃ M : List (Addr × List Key), us = M.map (fun p => Value.ref p.1) ∧ M.Perm L := by
    have key : ∀ (ws us : List Value), us.Perm ws → ∀ L : List (Addr × List Key), ws = L.map (fun p => Value.ref p.1) → ∃ M : List (Addr × List Key), us = M.map (fun p => Value.ref p.1) ∧ M.Perm L := by
      intro ws us pm
      induction pm with
      | nil => intro L h; exact ⟨[], rfl, by cases L with | nil => exact .nil | cons _ _ => simp at h⟩
      | @cons x l1 l2 _ ih =>
        intro L h
        cases L with
        | nil => simp at h
        | cons p L =>
          simp only [List.map_cons, List.cons.injEq] at h
          obtain ⟨M, e, q⟩ := ih L h.2
          exact ⟨p :: M, by rw [List.map_cons, e, h.1], q.cons p⟩
      | swap x y l =>
        intro L h
        match L, h with
        | p :: q :: L, h =>
          simp only [List.map_cons, List.cons.injEq] at h
          exact ⟨q :: p :: L, by simp [h.1, h.2.1, h.2.2], .swap p q L⟩
      | trans _ _ ih1 ih2 =>
        intro L h
        obtain ⟨M, e, q⟩ := ih2 L h
        obtain ⟨M2, e2, q2⟩ := ih1 M e
        exact ⟨M2, e2, q2.trans q⟩
    exact key _ us pm L rfl
  refine ⟨M, e, p, ?_⟩
  subst e
  have all : ∀ q ∈ M, R (.ref q.1) (Dk q.2) := fun q hq => hR q (p.mem_iff.mp hq)
  clear p pm hR
  induction M with
  | nil => exact .nil
  | cons q M ih => exact .cons (all q List.mem_cons_self) (ih fun x hx => all x (List.mem_cons_of_mem _ hx))
open PySem.W in
theorem sort_set {pins : List (Addr × Obj)} {σ : L2.St} {G H : Hp} {s : Shared} {a : Addr} {ks L : List (Addr × List Key)} {es : Array (Int × Value)} {ep : Nat} {t : SetTable} {xs : List D} {Q : VK} (hc : X.calm = true) (hu : X.A.units + 64 < cLine) (I : Inv X pins σ H s) (sm : Same G H) (e : xs = ks.map (fun p => Dk p.2)) (g : ∀ p ∈ ks, G p.1 = some (.tup (p.2.map kV))) (R : HasK (tupKi X.prog X.w) s.heap a L es ep t) (m : Met ks ks.length L)
    (ok : sortOk (dedup xs) = true) (hq : ∀ v H', Out G H H' v (.list (sortD (dedup xs)), true) → Q v H') : wpAny (model X.prog X.w) X.A (call (.builtin "sorted") [.ref a]) (EP X pins σ Q) X.xe s := by
  have pm := met_perm m R.apart
  have ed : dedup xs = (dd (ks.map (·.2))).map Dk := by rw [e, ← dd_data, List.map_map]; rfl
  obtain ⟨pl, al, so, dp⟩ := sortOk_of ok
  rw [ed] at pl al so dp
  have rpL : ∀ p ∈ L, Rp G (.ref p.1) (Dk p.2) := fun p hp => by
    refine .tup (g p (List.mem_of_mem_take (m.from_ p hp))) ?_
    exact rp_keys G p.2
  have plain : ∀ k : List Key, (Dk k).plain = true := by
    have go : ∀ ks : List Key, PyData.plainAll (ks.map kD) = true := by
      intro ks
      induction ks with
      | nil => rfl
      | cons k ks ih =>
        simp only [List.map_cons, PyData.plainAll, ih, Bool.and_true]
        cases k <;> rfl
    intro k
    simpa [Dk, PyData.plain] using go k
  refine sorted_gen2 (ds := dedup xs) (R := RG G) (I.ok.hd hc) (collects_set R) (fun us hp => ?_) fun out s1 s2 p eo k1 g1 o1 k2 g2 o2 big ho => ?_
  · obtain ⟨M, e1, pM, ei⟩ := each_perm (R := fun u d => RG G u d ∧ ∃ as, Reads s.heap u d as) (fun p hp => ⟨⟨.ref p.1, (rfl : RelV (.ref p.1) (Value.ref p.1)), rpL p hp⟩, reads_of I ((rpL p hp).ext (.of sm)) (plain p.2) (rfl : RelV (.ref p.1) (Value.ref p.1))⟩) hp
    have pD : (M.map fun p => Dk p.2).Perm ((dd (ks.map (·.2))).map Dk) := by
      have := ((pM.map (·.2)).trans pm).map Dk
      rw [List.map_map] at this
      exact this
    refine ⟨M.map fun p => Dk p.2, ?_, ?_, ei.mono fun _ _ h => h.1, ei.mono fun _ _ h => h.2, ?_, ?_, fun d hd => ?_⟩
    · rw [ed]
      refine sortD_perm pD (fun a ha b hb => al a ha b hb) fun a ha b hb h => ?_
      obtain ⟨ka, _, rfl⟩ := List.mem_map.mp ha
      obtain ⟨kb, _, rfl⟩ := List.mem_map.mp hb
      rw [Dk_eqv, decide_eq_true_eq] at h
      rw [h]
    · rw [hp.length_eq, List.length_map]
      have fw : L.length < 64 := R.few
      rw [sizeLine_eq]
      omega
    · exact fun a ha b hb => al a (pD.mem_iff.mp ha) b (pD.mem_iff.mp hb)
    · rcases so with (so | so) | so
      · exact .inl (.inl fun d hd => so d (pD.mem_iff.mp hd))
      · exact .inl (.inr fun d hd => so d (pD.mem_iff.mp hd))
      · rw [so] at pD
        exact .inr (List.perm_singleton.mp pD)
    · have := dp d (pD.mem_iff.mp hd)
      omega
  · obtain ⟨ws, rw', rp'⟩ := of_each eo
    obtain ⟨n, ho⟩ := ho
    have I1 : Inv X pins σ H s1 := I.call' (ch := []) o1 (Un.kept k1) (I.hok.kept k1) (by rw [g1]; exact I.bare) (fun _ z => nomatch z)
    have hp : H p = none := I1.hok.fresh big
    have len : ws.length ≤ sizeLine := by
      have fw : L.length < 64 := R.few
      have l1 := pm.length_eq
      rw [rp'.length, sortD_length, ed, List.length_map, ← l1, List.length_map, sizeLine_eq]
      omega
    exact ⟨V.ref p, upd H p (.lst ws), I1.call' (ch := []) (o2.trans o1.symm) (Un.laid k2 big hp) (I1.hok.laid k2 big ⟨len, out, n, rw', ho⟩) (by rw [g2]; exact I.bare) (fun _ z => nomatch z), rfl, hq _ _ (.new hp (.lst rp'))⟩
/-- sorted(set(a)), len(set(a)) -/
theorem inner_set {a : Expr} {t : TA} {q gpos : Pos} {pins : List (Addr × Obj)} {s : Shared} {σ : L2.St} {H : Hp} {K : List V → Hp → Prop} {Q : Value → Shared → Prop} (I : Inv X pins σ H s) (g2 : Gl X "set") (m2 : X.mg "set" = none) (ns : notStar a = true) (ha : PA X [a] t) (h : t σ H K)
    (go : ∀ us s1 vs H1, Inv X pins σ H1 s1 → Vals vs us → K vs H1 → wpAny (model X.prog X.w) X.A (call (.type "set") us) Q X.xe s1) : wpAny (model X.prog X.w) X.A (eval (.Call (.Name "set" q) [a] [] gpos) X.env) Q X.xe s := by
  refine wpAny_Call_Name_kw (ld_blt I g2 m2 (u := .type "set") (by decide +kernel) ?_ (by decide) (by decide))
  exact PyProof.Rows.callWith_type1 (thn (ha.run gpos pins s σ H _ I h) fun us s1 ⟨vs, H1, I1, r1, q1⟩ => go us s1 vs H1 I1 r1 q1) (star_ofS ns _) rfl
theorem pe_sortedSet {a : Expr} {t : TA} {p q pos gpos : Pos} (hc : X.calm = true) (hu : X.A.units + 64 < cLine) (g1 : Gl X "sorted") (m1 : X.mg "sorted" = none) (g2 : Gl X "set") (m2 : X.mg "set" = none) (ns : notStar a = true) (ha : PA X [a] t) :
    PE X (.Call (.Name "sorted" p) [.Call (.Name "set" q) [a] [] gpos] [] pos) (tCB (rN pSortedSet) t) := by
  refine ⟨fun pins s σ H Q I h => ?_⟩
  refine wpAny_Call_Name_kw (ld_blt I g1 m1 (u := .builtin "sorted") (by decide +kernel) ?_ (by decide) (by decide))
  refine PyProof.Rows.callWith_builtin1 ?_ rfl rfl
  show wpAny _ _ (spliced ((false, eval (.Call (.Name "set" q) [a] [] gpos) X.env) :: backTo pos (starEach [] X.env))) _ _ s
  refine Calls.spliced_cons (inner_set I g2 m2 ns ha h fun us s1 vs H1 I1 r1 q1 => ?_)
  obtain ⟨G, ds, res, sm, ops, hf, hq⟩ := q1
  unfold pSortedSet at hf
  have fin : ∀ {xs : List D} {d : D} {v : V}, vs = [v] → Op1 G H1 v d → (d = .list xs ∨ d = .tuple xs) → (if (setOk xs && sortOk (dedup xs)) = true then some (PyData.list (sortD (dedup xs)), true) else none) = some res →
      wpAny (model X.prog X.w) X.A (call (.type "set") us) (fun v s' => wpAny (model X.prog X.w) X.A (spliced (backTo pos (starEach [] X.env))) (fun ws s₁ => wpAny (model X.prog X.w) X.A (call (.builtin "sorted") (v :: ws)) (EP X pins σ Q) X.xe s₁) X.xe s') X.xe s1 := by
    intro xs d v ev o1 hd hf
    subst ev
    obtain ⟨u, rfl, rv⟩ := vals1 r1
    split at hf
    · rename_i ok
      simp only [Bool.and_eq_true] at ok
      cases hf
      refine make_set hc hu I1 sm o1 hd rv ok.1 fun ks s' b L es ep t e g I2 R m => ?_
      exact Calls.spliced_nil (sort_set hc hu I2 sm e g R m ok.2 hq)
    · cases hf
  split at hf
  · obtain ⟨v, ev, o1⟩ := op1s_one ops
    exact fin ev o1 (.inl rfl) hf
  · obtain ⟨v, ev, o1⟩ := op1s_one ops
    exact fin ev o1 (.inr rfl) hf
  · cases hf
theorem pe_lenSet {a : Expr} {t : TA} {p q pos gpos : Pos} (hc : X.calm = true) (hu : X.A.units + 64 < cLine) (g1 : Gl X "len") (m1 : X.mg "len" = none) (g2 : Gl X "set") (m2 : X.mg "set" = none) (ns : notStar a = true) (ha : PA X [a] t) :
    PE X (.Call (.Name "len" p) [.Call (.Name "set" q) [a] [] gpos] [] pos) (tCB (rN pLenSet) t) := by
  refine ⟨fun pins s σ H Q I h => ?_⟩
  refine wpAny_Call_Name_kw (ld_blt I g1 m1 (u := .builtin "len") (by decide +kernel) ?_ (by decide) (by decide))
  refine PyProof.Rows.callWith_builtin1 ?_ rfl rfl
  show wpAny _ _ (spliced ((false, eval (.Call (.Name "set" q) [a] [] gpos) X.env) :: backTo pos (starEach [] X.env))) _ _ s
  refine Calls.spliced_cons (inner_set I g2 m2 ns ha h fun us s1 vs H1 I1 r1 q1 => ?_)
  obtain ⟨G, ds, res, sm, ops, hf, hq⟩ := q1
  unfold pLenSet at hf
  have fin : ∀ {xs : List D} {d : D} {v : V}, vs = [v] → Op1 G H1 v d → (d = .list xs ∨ d = .tuple xs) → (if setOk xs = true then some (PyData.int (dedup xs).length, false) else none) = some res →
      wpAny (model X.prog X.w) X.A (call (.type "set") us) (fun v s' => wpAny (model X.prog X.w) X.A (spliced (backTo pos (starEach [] X.env))) (fun ws s₁ => wpAny (model X.prog X.w) X.A (call (.builtin "len") (v :: ws)) (EP X pins σ Q) X.xe s₁) X.xe s') X.xe s1 := by
    intro xs d v ev o1 hd hf
    subst ev
    obtain ⟨u, rfl, rv⟩ := vals1 r1
    split at hf
    · rename_i ok
      cases hf
      refine make_set hc hu I1 sm o1 hd rv ok fun ks s' b L es ep t e g I2 R m => ?_
      obtain ⟨o, ho, hex, hd'⟩ := R.obj
      have fw := R.few
      have sl := ents_size R.ents
      refine Calls.spliced_nil (call_len_set ho hex hd' R.fits (by omega) ?_)
      have pm := (met_perm m R.apart).length_eq
      have ed : dedup xs = (dd (ks.map (·.2))).map Dk := by rw [e, ← dd_data, List.map_map]; rfl
      have len : (es.size : Int) = ((dedup xs).length : Int) := by
        rw [ed, List.length_map, ← pm, List.length_map, sl]
        rfl
      exact ⟨.int (dedup xs).length, H1, I2.tok _, ⟨_, by rw [← len]⟩, hq _ _ (.old (.int _))⟩
    · cases hf
  split at hf
  · obtain ⟨v, ev, o1⟩ := op1s_one ops
    exact fin ev o1 (.inl rfl) hf
  · obtain ⟨v, ev, o1⟩ := op1s_one ops
    exact fin ev o1 (.inr rfl) hf
  · cases hf
end
end G6

namespace G6
open PySem PySem.Spec L2
section
variable {X : Cx}
theorem call_pStr : CallR X (.type "str") (rN pStr) := by
  intro pins s σ H xs us Q I r h
  obtain ⟨G, ds, res, sm, ops, hf, hq⟩ := h
  unfold pStr at hf
  split at hf
  · split at hf
    · rename_i hz
      cases hf
      obtain ⟨v, rfl, o1⟩ := op1s_one ops
      exact call_str_int pins s σ H _ us Q I r ⟨_, by rw [op1_int o1], hz, hq _ _ (.old (.str _))⟩
    · cases hf
  · cases hf
/-! d.get -/
def tGet (f : Pr) (td : TE) (ta : TA) : TE := fun σ H Q => td σ H fun x H1 => (∃ a, x = .ref a ∧ IsD H1 a) ∧ ta σ H1 fun vs H2 => rN f (x :: vs) H2 Q
theorem isD_of {G H : Hp} {v : V} {kvs : List (D × D)} (sm : Same G H) (h : Op1 G H v (.dict kvs)) : ∃ a, v = .ref a ∧ IsD H a := by
  obtain ⟨a, rfl, q⟩ := op1_dict sm h
  rcases q with ⟨ks, rk, _⟩ | ⟨ks, rt, _⟩
  · exact ⟨a, rfl, .inl ⟨ks, rk.rd⟩⟩
  · exact ⟨a, rfl, .inr ⟨ks, rt.rd⟩⟩
theorem l_get {W : Wx} {f : Pr} {p : Pk} {ks : List Pk} (σ : L2.St) (H : Hp) (Q : VK) (h : tX W (xGet f p ks) σ H Q) : tGet f (tPk W p) (tPks W ks) σ H Q := by
  obtain ⟨g, env, G, er, h⟩ := h
  refine ⟨g, env, G, er, ?_⟩
  unfold xGet at h
  refine h.split.mono fun t e1 G1 H1 x1 er1 h v hv => ?_
  cases qt : tget e1 t with
  | none => simp only [qt] at h; exact h.elim
  | some d =>
    cases d with
    | dict kvs =>
      simp only [qt] at h
      refine ⟨isD_of er1.gH (op1_of er1 hv qt), g, e1, G1, er1, h.split.mono fun ts e2 G2 H2 x2 er2 h vs hvs => ?_⟩
      cases q : tgets e2 (t :: ts) with
      | none => simp only [q] at h; exact h.elim
      | some ds =>
        cases q2 : f ds with
        | none => simp only [q, q2] at h; exact h.elim
        | some r =>
          simp only [q, q2] at h
          refine ⟨G2, ds, r, er2.gH, op1s_of er2 (.cons (hv.ext x2) hvs) q, q2, fun w H3 o => ?_⟩
          obtain ⟨G3, x3, er3, vr⟩ := er2.out o
          exact h G3 H3 x3 er3 w vr
    | _ => simp only [qt] at h; exact h.elim
theorem op1s_three {G H : Hp} {vs : List V} {d e f : D} (h : Op1s G H vs [d, e, f]) : ∃ v w u, vs = [v, w, u] ∧ Op1 G H v d ∧ Op1 G H w e ∧ Op1 G H u f := by
  cases h with
  | cons h1 r =>
    cases r with
    | cons h2 r =>
      cases r with
      | cons h3 r =>
        cases r
        exact ⟨_, _, _, rfl, h1, h2, h3⟩
theorem pe_get1 {o k : Expr} {td tk : TE} {apos pos : Pos} (hu : X.A.units + 64 < cLine) (ns : notStar k = true) (ho : PE X o td) (hk : PE X k tk) (hb : attributeBase o "get" X.env (eval o X.env) = eval o X.env) (hl : (apos.endLine == pos.line) = true) :
    PE X (.Call (.Attribute o "get" apos) [k] [] pos) (tGet pGet1 td (tCons tk tNil)) := by
  refine ⟨fun pins s σ H Q I h => ?_⟩
  refine wpAny_Call_method hb (by rw [star_ofS ns]; rfl) hl PySem.F.plainAttrs_dict PySem.F.slot_dict_get PySem.F.type_dict_get (thn (ho.run pins s σ H _ I h) fun u s1 ⟨x, H1, I1, rx, ⟨a, ex, d⟩, q1⟩ => ?_)
  subst ex
  obtain rfl : u = Value.ref a := rx
  obtain ⟨t1, t2, _⟩ := isD_at I1 d
  refine ⟨t1, t2, ?_⟩
  rw [show backTo pos (starEach [k] X.env) = [(false, eval k X.env)] by rw [star_ofS ns]; rfl]
  refine Calls.callWith_builtin rfl (Calls.evalArgs_plain (Calls.spliced_cons (thn (hk.run pins s1 σ H1 _ I1 q1) fun iv s2 ⟨y, H2, I2, ry, q2⟩ => Calls.spliced_nil ?_)))
  obtain ⟨G, ds, res, sm, ops, hf, hq⟩ := q2
  unfold pGet1 at hf
  split at hf
  · rename_i kvs key
    split at hf
    · rename_i fit
      cases hf
      obtain ⟨v, w, ev, o1, o2⟩ := op1s_two ops
      cases ev
      obtain ⟨a', ov, ea, dx, orp⟩ := dx_of sm o1 o2 fit
      cases ea
      refine dx_by I2 dx fun Hx Ix gx back => d_get1 (by omega) Ix gx ry fun w' s3 I3 rw' => ⟨_, H2, back s3 I3, rw', hq _ _ (.old (orp.getD .non))⟩
    · cases hf
  · cases hf
theorem pe_get2 {o k z : Expr} {td tk tz : TE} {apos pos : Pos} (hu : X.A.units + 64 < cLine) (ns : notStar k = true) (ns2 : notStar z = true) (ho : PE X o td) (hk : PE X k tk) (hz : PE X z tz) (hb : attributeBase o "get" X.env (eval o X.env) = eval o X.env) (hl : (apos.endLine == pos.line) = true) :
    PE X (.Call (.Attribute o "get" apos) [k, z] [] pos) (tGet pGet2 td (tCons tk (tCons tz tNil))) := by
  refine ⟨fun pins s σ H Q I h => ?_⟩
  refine wpAny_Call_method hb (by rw [star_ofS ns, star_ofS ns2]; rfl) hl PySem.F.plainAttrs_dict PySem.F.slot_dict_get PySem.F.type_dict_get (thn (ho.run pins s σ H _ I h) fun u s1 ⟨x, H1, I1, rx, ⟨a, ex, d⟩, q1⟩ => ?_)
  subst ex
  obtain rfl : u = Value.ref a := rx
  obtain ⟨t1, t2, _⟩ := isD_at I1 d
  refine ⟨t1, t2, ?_⟩
  rw [show backTo pos (starEach [k, z] X.env) = [(false, eval k X.env), (false, eval z X.env)] by rw [star_ofS ns, star_ofS ns2]; rfl]
  refine Calls.callWith_builtin rfl (Calls.evalArgs_plain (Calls.spliced_cons (thn (hk.run pins s1 σ H1 _ I1 q1) fun iv s2 ⟨y, H2, I2, ry, q2⟩ => Calls.spliced_cons (thn (hz.run pins s2 σ H2 _ I2 q2) fun fv s3 ⟨yz, H3, I3, rz, q3⟩ => Calls.spliced_nil ?_))))
  obtain ⟨G, ds, res, sm, ops, hf, hq⟩ := q3
  unfold pGet2 at hf
  split at hf
  · rename_i kvs key zd
    split at hf
    · rename_i fit
      cases hf
      simp only [Bool.and_eq_true] at fit
      obtain ⟨v, w, w3, ev, o1, o2, o3⟩ := op1s_three ops
      cases ev
      obtain ⟨a', ov, ea, dx, orp⟩ := dx_of sm o1 o2 fit.1
      cases ea
      rcases o3 with rp3 | ⟨b, _, _, ob, _, ct⟩
      · refine dx_by I3 dx fun Hx Ix gx back => d_get2 (by omega) Ix gx ry rz fun w' s4 I4 rw' => ⟨_, H3, back s4 I4, rw', hq _ _ (.old (orp.getD rp3))⟩
      · exfalso
        have nb := fit.2
        cases ct <;> simp [noBox] at nb
    · cases hf
  · cases hf
end
end G6

namespace G6
open PySem PySem.Spec L2 PyProof.Rows
/-! ### enumerate over a tuple -/
set_option maxHeartbeats 1000000 in
theorem meets_enum1 {v : Value} {o : Obj} {H : Heap → Prop} (B : Begins v o H) :
    Meets (Builtin.«enumerate.__new__» ⟨[.type "enumerate", v], []⟩) (fun _ R s => H s.heap ∧
      R (.ok (.ret (.ref (s.heap.push o).objs.size))) { s with heap := (s.heap.push o).push { cls := .type "enumerate", data := .fields #[.none, .bool false, .ref s.heap.objs.size, rawInt 0, .none, .none] } }) :=
  .of_wp fun prog w A R s h => by
    obtain ⟨hp, g, d, tk, os⟩ := s
    obtain ⟨h1, h⟩ := h
    have hsub := sub_enumerate
    have q1 : ∀ {A' : Around} {E : Value → Shared → Prop} {Q : Value → Shared → Prop}, Q (.ref hp.objs.size) ⟨hp.push o, g, d, tk, os⟩ → wpAny (model prog w) A' (pyIter v) Q E ⟨hp, g, d, tk, os⟩ :=
      fun q => B.iter prog w _ _ ⟨hp, g, d, tk, os⟩ _ h1 q
    wp_walk using q1
    refine wpAny_stack_any fun st => wpAny_pure ?_
    split
    · rename_i c _ _ _ _ _
      cases (c == Value.type "enumerate")
      · wp_walk using q1
        exact ⟨_, rfl, h⟩
      · wp_walk using q1
        exact ⟨_, rfl, h⟩
    · wp_walk using q1
      exact ⟨_, rfl, h⟩
section
variable {prog : Program} {w : World} {A : Around} {E : Value → Shared → Prop} {s : Shared}
theorem call_enum1 {v : Value} {o : Obj} {H : Heap → Prop} {Q : Value → Shared → Prop} (B : Begins v o H) (h1 : H s.heap)
    (h : ∀ h', IsEnum h' (s.heap.objs.size + 1) s.heap.objs.size 0 .none → h'.get? s.heap.objs.size = some o → h'.objs.size = s.heap.objs.size + 2 →
      (∀ b o, s.heap.get? b = some o → h'.get? b = some o) → Q (.ref (s.heap.objs.size + 1)) { s with heap := h' }) :
    wpAny (model prog w) A (call (.type "enumerate") [v]) Q E s := by
  refine callType_new F.called_enumerate (by decide) (F.typeCall_enumerate_1 _) (F.newCall_enumerate_1 _) (fun obj => F.args_object_init_2 obj _) F.entry_enumerate_new
    (meets_enum1 B) ⟨h1, ?_⟩
  have hz : (s.heap.push o).objs.size = s.heap.objs.size + 1 := Heap.size_push ..
  show _ ∧ _
  rw [hz]
  have he : IsEnum ((s.heap.push o).push { cls := .type "enumerate", data := .fields #[.none, .bool false, .ref s.heap.objs.size, rawInt 0, .none, .none] }) (s.heap.objs.size + 1) s.heap.objs.size 0 .none := by
    have := Heap.get?_push_size (s.heap.push o) (o := { cls := .type "enumerate", data := .fields #[.none, .bool false, .ref s.heap.objs.size, rawInt 0, .none, .none] }) rfl
    rw [hz] at this
    exact this
  exact ⟨⟨_, he, rfl⟩, h _ he (Heap.get?_push_of_some _ (Heap.get?_push_size _ B.free)) (by rw [Heap.size_push, hz]) fun b o x => Heap.get?_push_of_some _ (Heap.get?_push_of_some _ x)⟩
theorem next_enumT_end {e it l : Addr} {i : Nat} {items : Array Value} {old : Value} {Q : Option Value → Shared → Prop} (hh : A.handled = none)
    (he : IsEnum s.heap e it i old) (hit : s.heap.IsTupleIter it l i) (hl : s.heap.IsTuple l items) (hx : items[i]? = none)
    (hQ : ∀ h', Heap.ExtBut it s.heap h' → Q none { s with heap := h' }) : wpAny (model prog w) A (pyNext (.ref e)) Q E s := by
  have hT : s.TypeIs (.ref e) "enumerate" := ⟨_, he, rfl⟩
  unfold pyNext
  refine wpAny_bind (wpAny_attempt (wpAny_callSpecial?_slot (name := Str.ofString "__next__") hT F.slot_enumerate_next
    (wpAny_call_entry F.slot_enumerate_next hT F.entry_enumerate_next ?_ (F.args_enumerate_next_1 _))))
  show wpAny _ _ (field (.ref e) 2 >>= _) _ _ _
  refine wpAny_bind (wpAny_field he rfl (x := .ref it) rfl ?_)
  refine wpAny_bind (wpAny_nextOf_tuple_end hh hit hl hx fun h' x he' hx' => ?_)
  obtain ⟨o, ho, hc⟩ := hx'
  refine wpAny_bind (wpAny_isInstance (T := "StopIteration") (b := true) ⟨o, ho, hc⟩ isSubtype_stop ?_)
  exact wpAny_pure (hQ _ he')
end
/-- the tuple at a, each item in a new pair -/
def IteT (K : PySem.W.Frag) (a : Addr) : L2.It :=
  ⟨fun i H => ∃ (xs : List V) (x : V), SqT K H a xs ∧ xs[i]? = some x, fun i H v H' => ∃ T x, v = .ref T ∧ H T = none ∧ H' = upd H T (.tup [.int (i : Nat), x]) ∧ ∀ xs, SqT K H a xs → xs[i]? = some x, fun i H => ∃ xs : List V, SqT K H a xs ∧ xs.length ≤ i⟩
theorem turn_enumT {P : Program} {w : World} {K : PySem.W.Frag} {elts : List Expr} {kk : Nat} {tpos : Pos} (a e it : Addr) :
    Turn P w K (.Tuple elts kk tpos) (IteT K a) [e, it] e (fun i h => (∃ old, IsEnum h e it ((i : Nat) : Int) old) ∧ h.IsTupleIter it a i ∧ e ≠ it ∧ a ≠ it ∧ a ≠ e) where
  mem := by simp
  obj := fun i h st b hb => by
    obtain ⟨⟨old, he⟩, ⟨o, ho, hc, hd⟩, _⟩ := st
    have e' : b = e ∨ b = it := by simpa using hb
    rcases e' with z | z
    · rw [z]; exact ⟨_, he, fun v q => nomatch q⟩
    · rw [z]; exact ⟨o, ho, fun v q => by rw [hd] at q; cases q⟩
  keep := fun i h h' st k => let ⟨⟨old, he⟩, hi, hne⟩ := st; ⟨⟨old, k e (by simp) _ he⟩, hi.at fun o q => k it (by simp) o q, hne⟩
  item := by
    intro X hP hw hK hc i pins s σ H E I hf st hg
    subst hP hw hK
    obtain ⟨⟨old, he⟩, hit, hne, hai, hae⟩ := st
    obtain ⟨xs, x, hq, hx⟩ := hg
    obtain ⟨its, rv, p, hz⟩ := I.tuple hq
    obtain ⟨u, hu, ru⟩ := rv.get hx
    have hel : e < s.heap.objs.size := Heap.lt_size he
    have hil : it < s.heap.objs.size := by obtain ⟨_, q, _⟩ := hit; exact Heap.lt_size q
    have hlt : i < its.toArray.size := by
      have := get_lt hu
      simpa using this
    refine wpAny_pyNext_enum_itemD (Draws.tuple (A := X.A.in1) (I.ok.hd hc) it a hai its.toArray) he ⟨hit, show s.heap.IsTuple a its.toArray from p⟩ hlt hne (by simp [Ne.symm hae, hne]) fun y h' tk hy ho st' hT hsz hk => ?_
    have hyu : y = u := by
      have : its.toArray[i]? = some u := by simpa using hu
      rw [hy] at this
      exact Option.some.inj this
    subst hyu
    refine ⟨_, rfl, wpAny_letOwnedTupleGo_enum (s := { s with heap := h', toks := tk + 1 }) ho fun h'' he' sb => ?_⟩
    have hT2 : h''.get? s.heap.objs.size = some { cls := .type "tuple", data := .seq #[.int i tk, y] } := (sb.2 _ (Nat.ne_of_gt hel)).trans hT
    have new : ObjOk X.prog X.w (upd H s.heap.objs.size (.tup [.int (i : Nat), x])) h'' s.heap.objs.size (.tup [.int (i : Nat), x]) :=
      ⟨by show 2 ≤ sizeLine; decide, [.int i tk, y], .cons ⟨_, rfl⟩ (.cons ru .nil), ⟨_, hT2, rfl, _, rfl⟩⟩
    have I1 : Inv X pins σ (upd H s.heap.objs.size (.tup [.int (i : Nat), x])) { s with heap := h'', toks := tk + 1 } :=
      I.turnedNew (ch := [e, it]) (fun b ob hb q => (sb.2 b (fun z => hb (by simp [z]))).trans (hk b ob (fun z => hb (by simp [z])) (fun z => hb (by simp [z])) q)) hf (Nat.le_refl _) new
    refine ⟨.ref s.heap.objs.size, _, I1, rfl, ⟨_, x, rfl, I.hok.fresh (Nat.le_refl _), rfl, fun ys hy => by rw [I.tuple_inj hy hq]; exact hx⟩, ⟨⟨y, ?_⟩, st'.1.at fun o q => (sb.2 it (Ne.symm hne)).trans q, hne, hai, hae⟩, fun b hb => ?_⟩
    · have e1 : ((i + 1 : Nat) : Int) = (i : Int) + 1 := by omega
      rw [e1]; exact he'
    · have hb' : b < s.heap.objs.size := by
        have e' : b = e ∨ b = it := by simpa using hb
        rcases e' with z | z
        · rw [z]; exact hel
        · rw [z]; exact hil
      rw [upd_ne (Nat.ne_of_lt hb')]
      exact (hf b hb).1
  done := by
    intro X hP hw hK hc i pins s σ H E I hf st hg
    subst hP hw hK
    obtain ⟨⟨old, he⟩, hit, hne, hai, hae⟩ := st
    obtain ⟨xs, hq, hx⟩ := hg
    obtain ⟨its, rv, p, hz⟩ := I.tuple hq
    obtain ⟨f0, f1, f2, f3, f4, f5⟩ := hf it (by simp)
    have hl := rv.length
    exact next_enumT_end (I.ok.hd hc) he hit (show s.heap.IsTuple a its.toArray from p) (by simp; omega) fun h' eb => ⟨rfl, I.turned (t' := s.toks) (fun b o hb q => eb b o hb q) f0 f1 f3 f4 f5⟩
  self := fun A i s Q E st h => let ⟨⟨_, he⟩, _⟩ := st; wpAny_pyIter_enum he h
def iEnumA (K : PySem.W.Frag) (ta : TA) : TI := fun σ H R => ta σ H fun vs H1 => ∃ a xs, vs = [.ref a] ∧ ((SqL K H1 a xs ∧ R (Ite K a) H1) ∨ (SqT K H1 a xs ∧ R (IteT K a) H1))
theorem pi_enumA {X : Cx} {e : Expr} {ta : TA} {p pos tpos : Pos} {elts : List Expr} {kk : Nat} (hg : Gl X "enumerate") (hm : X.mg "enumerate" = none) (ha : PA X [e] ta) (hs : starEach [e] X.env = [(false, eval e X.env)] := by rfl) :
    PI X (.Tuple elts kk tpos) (.Call (.Name "enumerate" p) [e] [] pos) (iEnumA X.K ta) := by
  refine ⟨fun pins s σ H R I h => ?_⟩
  refine Call_ (ld_blt I hg hm boot_enumerate (PyProof.Rows.callWith_type1 (thn (ha.run pos pins s σ H _ I h) fun us s1 ⟨vs, H1, I1, r1, q1⟩ => ?_) hs rfl))
  obtain ⟨a, xs, ex, q1⟩ := q1
  subst ex
  cases r1 with
  | cons r rr =>
    cases rr
    cases r
    have fresh : ∀ b, b ∈ [s1.heap.objs.size + 1, s1.heap.objs.size] → FpOk X pins H1 b := fun b hb => by
      have e' : b = s1.heap.objs.size + 1 ∨ b = s1.heap.objs.size := by simpa using hb
      have hle : s1.heap.objs.size ≤ b := by
        rcases e' with z | z
        · rw [z]; exact Nat.le_add_right _ _
        · rw [z]; exact Nat.le_refl _
      exact I1.fpOk hle (I1.hok.fresh hle)
    rcases q1 with ⟨hq, q⟩ | ⟨hq, q⟩
    · obtain ⟨its, rv, p', hz⟩ := I1.list hq
      refine call_enumerate_list p'.isList fun h' he hit hsz hk => wpAny_pyIter_enum he ?_
      have I2 : Inv X pins σ H1 { s1 with heap := h' } := I1.kept (t' := s1.toks) hk
      exact ⟨s1.heap.objs.size + 1, [s1.heap.objs.size + 1, s1.heap.objs.size], _, _, H1, rfl, I2, turn_enum a (s1.heap.objs.size + 1) s1.heap.objs.size, ⟨⟨.none, he⟩, hit, Nat.succ_ne_self _⟩, fresh, q⟩
    · obtain ⟨its, rv, p', hz⟩ := I1.tuple hq
      have tp : s1.heap.IsTuple a its.toArray := p'
      obtain ⟨o1, ho1, _⟩ := id tp
      have hal : a < s1.heap.objs.size := Heap.lt_size ho1
      refine call_enum1 (begins_tuple a its.toArray) tp fun h' he hit hsz hk => wpAny_pyIter_enum he ?_
      have I2 : Inv X pins σ H1 { s1 with heap := h' } := I1.kept (t' := s1.toks) hk
      exact ⟨s1.heap.objs.size + 1, [s1.heap.objs.size + 1, s1.heap.objs.size], _, _, H1, rfl, I2, turn_enumT a (s1.heap.objs.size + 1) s1.heap.objs.size, ⟨⟨.none, he⟩, ⟨_, hit, rfl, rfl⟩, Nat.succ_ne_self _, Nat.ne_of_lt hal, Nat.ne_of_lt (Nat.lt_succ_of_lt hal)⟩, fresh, q⟩
theorem goes_enumT {K : PySem.W.Frag} {G : Hp} {a : Addr} {vs : List V} {xs : List D} (r1 : G a = some (.tup vs)) (h1 : RpAll G vs xs) : Goes (IteT K a) (enumD 0 xs) G := fun G2 H2 x s k => by
  have q1 : H2 a = some (.tup vs) := s _ _ (x.tp a vs r1)
  refine ⟨fun d hd => ?_, fun hn => ⟨vs, sqT q1, by have := get_none hn; rw [enum_length] at this; rw [h1.length]; exact this⟩⟩
  obtain ⟨d1, e1, rfl⟩ := enum_get hd
  obtain ⟨v, hv, rp⟩ := h1.get e1
  refine ⟨⟨vs, v, sqT q1, hv⟩, fun y H3 hy => ?_⟩
  obtain ⟨T, y1, rfl, hT, rfl, f1⟩ := hy
  have z1 := f1 vs (sqT q1)
  rw [hv] at z1
  cases z1
  rw [show (0 + k : Nat) = k by omega]
  exact .tup hT (.cons (.int _) (.cons (rp.ext x) .nil))
end G6

namespace G6
open PySem PySem.Spec L2 PySem.W PyProof.Rows
/-! ### max, min of two texts -/
theorem cmp_strs_lt {prog : Program} {w : World} {A : Around} {x y : Str} {t u : PySem.Tok} (hu : A.units < cLine) :
    CmpOf prog w A .Lt (fun i v => (#[Value.str x t, Value.str y u])[i]? = some v) (fun i j => dataLt (.str (if i = 0 then x else y)) (.str (if j = 0 then x else y))) := by
  have at_ : ∀ (i : Nat) (v : Value), (#[Value.str x t, Value.str y u])[i]? = some v → ∃ t', v = .str (if i = 0 then x else y) t' := by
    intro i v h
    match i, h with
    | 0, h => exact ⟨t, by simpa using h.symm⟩
    | 1, h => exact ⟨u, by simpa using h.symm⟩
    | i + 2, h => simp at h
  intro i j vi vj s Q E hi hj hq
  obtain ⟨t1, rfl⟩ := at_ i vi hi
  obtain ⟨t2, rfl⟩ := at_ j vj hj
  exact rcLt_alike _ _ A s _ _ _ _ (.str _ _) (.str _ _) rfl (by simp) (by simp [PyData.depth]; exact hu) prog w E Q hq
theorem cmp_strs_gt {prog : Program} {w : World} {A : Around} {x y : Str} {t u : PySem.Tok} (hu : A.units < cLine) :
    CmpOf prog w A .Gt (fun i v => (#[Value.str x t, Value.str y u])[i]? = some v) (fun i j => dataLt (.str (if j = 0 then x else y)) (.str (if i = 0 then x else y))) := by
  have at_ : ∀ (i : Nat) (v : Value), (#[Value.str x t, Value.str y u])[i]? = some v → ∃ t', v = .str (if i = 0 then x else y) t' := by
    intro i v h
    match i, h with
    | 0, h => exact ⟨t, by simpa using h.symm⟩
    | 1, h => exact ⟨u, by simpa using h.symm⟩
    | i + 2, h => simp at h
  intro i j vi vj s Q E hi hj hq
  obtain ⟨t1, rfl⟩ := at_ i vi hi
  obtain ⟨t2, rfl⟩ := at_ j vj hj
  exact rcGt_alike _ _ A s _ _ _ _ (.str _ _) (.str _ _) rfl (by simp) (by simp [PyData.depth]; exact hu) prog w E Q hq
section
variable {prog : Program} {w : World} {A : Around} {E : Value → Shared → Prop} {s : Shared} {Q : Value → Shared → Prop} {x y : Str} {t u : PySem.Tok}
/-- the walk over the two, whatever is asked of them -/
theorem two_walk {a b : Value} {op : CmpOp} {bt : Nat → Nat → Bool} (hh : A.handled = none) (hc : CmpOf prog w A.in1 op (fun i v => (#[a, b])[i]? = some v) bt)
    (h : ∀ h' tk, (∀ c o, s.heap.get? c = some o → h'.get? c = some o) → Q (if bt 1 0 then b else a) { s with heap := h', toks := tk }) :
    wpAny (model prog w) A.in1 (pyIter (.ref s.heap.objs.size)) (fun it s2 => ∃ I fp wr n P St bt, it = .ref I ∧ Walks prog w A.in1 I fp wr n P St ∧ St 0 s2.heap ∧ (∀ b ∈ fp, b < s2.heap.objs.size) ∧ 0 < n ∧ CmpOf prog w A.in1 op P bt ∧
      ∀ v h' tk, P (argBest bt (n - 1)) v → (∀ b o, b ∉ wr → s2.heap.get? b = some o → h'.get? b = some o) → Q v { s2 with heap := h', toks := tk }) E
      { s with heap := s.heap.push { cls := .type "tuple", data := .seq #[a, b] } } := by
  have tup : (s.heap.push { cls := .type "tuple", data := .seq #[a, b] }).IsTuple s.heap.objs.size #[a, b] := ⟨_, Heap.get?_push_size _ rfl, rfl, 0, rfl⟩
  have size1 : (s.heap.push { cls := .type "tuple", data := .seq #[a, b] }).objs.size = s.heap.objs.size + 1 := Heap.size_push ..
  refine wpAny_pyIter_tuple tup ⟨s.heap.objs.size + 1, [s.heap.objs.size + 1, s.heap.objs.size], [s.heap.objs.size + 1], 2, fun i v => (#[a, b])[i]? = some v, fun i h => h.IsTupleIter (s.heap.objs.size + 1) s.heap.objs.size i ∧ h.IsTuple s.heap.objs.size #[a, b], bt, congrArg Value.ref size1, ?_, ?_, ?_, by decide, hc, fun v h' tk hv hk => ?_⟩
  · exact Walks.tuple (A := A.in1) hh (s.heap.objs.size + 1) s.heap.objs.size (Nat.ne_of_lt (Nat.lt_succ_self _)) #[a, b]
  · have it1 : ((s.heap.push { cls := .type "tuple", data := .seq #[a, b] }).push { cls := .type "tuple_iterator", data := .fields #[.ref s.heap.objs.size, .int 0 0] }).get? (s.heap.objs.size + 1) = some { cls := .type "tuple_iterator", data := .fields #[.ref s.heap.objs.size, .int 0 0] } := by
      rw [← size1]
      exact Heap.get?_push_size _ rfl
    exact ⟨⟨_, it1, rfl, rfl⟩, tup.push _⟩
  · intro c hcm
    have big : ((s.heap.push { cls := .type "tuple", data := .seq #[a, b] }).push { cls := .type "tuple_iterator", data := .fields #[.ref s.heap.objs.size, .int 0 0] }).objs.size = s.heap.objs.size + 2 := by rw [Heap.size_push, size1]
    show c < ((s.heap.push { cls := .type "tuple", data := .seq #[a, b] }).push { cls := .type "tuple_iterator", data := .fields #[.ref s.heap.objs.size, .int 0 0] }).objs.size
    rw [big]
    simp only [List.mem_cons, List.not_mem_nil, or_false] at hcm
    rcases hcm with e | e
    · rw [e]; exact Nat.lt_succ_self _
    · rw [e]; exact Nat.lt_succ_of_lt (Nat.lt_succ_self _)
  · have keep : ∀ c o, s.heap.get? c = some o → h'.get? c = some o := fun c o e => by
      have lt := Heap.lt_size e
      exact hk c o (by rw [List.mem_singleton]; exact Nat.ne_of_lt (Nat.lt_succ_of_lt lt)) (Heap.get?_push_of_some _ (Heap.get?_push_of_some _ e))
    have := h h' tk keep
    have ev : v = if bt 1 0 then b else a := by
      cases q : bt 1 0 <;> simp [argBest, q] at hv <;> simp [hv]
    rw [ev]
    exact this
theorem max_two_strs (hh : A.handled = none) (hu : A.in1.units < cLine) (h : ∀ h' tk, (∀ c o, s.heap.get? c = some o → h'.get? c = some o) → Q (if dataLt (.str x) (.str y) then .str y u else .str x t) { s with heap := h', toks := tk }) :
    wpAny (model prog w) A (call (.builtin "max") [.str x t, .str y u]) Q E s :=
  call_max_two (two_walk hh (cmp_strs_gt hu) fun h' tk k => h h' tk k)
theorem min_two_strs (hh : A.handled = none) (hu : A.in1.units < cLine) (h : ∀ h' tk, (∀ c o, s.heap.get? c = some o → h'.get? c = some o) → Q (if dataLt (.str y) (.str x) then .str y u else .str x t) { s with heap := h', toks := tk }) :
    wpAny (model prog w) A (call (.builtin "min") [.str x t, .str y u]) Q E s :=
  call_min_two (two_walk hh (cmp_strs_lt hu) fun h' tk k => h h' tk k)
end
section
variable {X : Cx}
theorem call_pMax2 (hc : X.calm = true) (hu : X.A.units + 64 < cLine) : CallR X (.builtin "max") (rN pMax2) := by
  intro pins s σ H xs us Q I r h
  obtain ⟨G, ds, res, sm, ops, hf, hq⟩ := h
  unfold pMax2 at hf
  split at hf
  · cases hf
    obtain ⟨v, w, rfl, o1, o2⟩ := op1s_two ops
    exact call_max2 hc pins s σ H _ us Q I r ⟨_, _, by rw [op1_int o1, op1_int o2], hq _ _ (.old (.int _))⟩
  · cases hf
    obtain ⟨v, w, rfl, o1, o2⟩ := op1s_two ops
    rw [op1_str o1, op1_str o2] at r
    obtain ⟨u, w', rfl, ⟨t, rfl⟩, ⟨t', rfl⟩⟩ := vals2 r
    refine max_two_strs (I.ok.hd hc) (by show X.A.units + 1 < cLine; omega) fun h' tk k => ⟨_, H, I.kept k, ?_, hq _ _ (.old (.str _))⟩
    split <;> exact ⟨_, rfl⟩
  · cases hf
theorem call_pMin2 (hc : X.calm = true) (hu : X.A.units + 64 < cLine) : CallR X (.builtin "min") (rN pMin2) := by
  intro pins s σ H xs us Q I r h
  obtain ⟨G, ds, res, sm, ops, hf, hq⟩ := h
  unfold pMin2 at hf
  split at hf
  · cases hf
    obtain ⟨v, w, rfl, o1, o2⟩ := op1s_two ops
    exact call_min2 hc pins s σ H _ us Q I r ⟨_, _, by rw [op1_int o1, op1_int o2], hq _ _ (.old (.int _))⟩
  · cases hf
    obtain ⟨v, w, rfl, o1, o2⟩ := op1s_two ops
    rw [op1_str o1, op1_str o2] at r
    obtain ⟨u, w', rfl, ⟨t, rfl⟩, ⟨t', rfl⟩⟩ := vals2 r
    refine min_two_strs (I.ok.hd hc) (by show X.A.units + 1 < cLine; omega) fun h' tk k => ⟨_, H, I.kept k, ?_, hq _ _ (.old (.str _))⟩
    split <;> exact ⟨_, rfl⟩
  · cases hf
end
end G6

/-! zip over any two, its tuple still out: what dict() draws from -/
namespace G6
open PySem
section
variable {prog : Program} {w : World} {A : Around} {E : Value → Shared → Prop} {s : Shared} {z TI TO T i1 i2 : Addr} {f : Bool} {oT : Obj} {fp1 fp2 : List Addr} {n1 n2 i : Nat} {P1 P2 : Nat → Value → Prop} {St1 St2 : Nat → Heap → Prop} {a1 a2 : Value}
theorem zipH_item {Q : Value → Shared → Prop} (S : ZipSep2 z TI TO i1 i2 fp1 fp2) (D1 : Draws prog w A i1 fp1 n1 P1 St1) (D2 : Draws prog w A i2 fp2 n2 P2 St2)
    (hz : IsZipHeld s.heap z TI TO T f) (hT : s.heap.get? T = some oT) (hTI : IsTupOf2 s.heap TI (.ref i1) (.ref i2)) (st1 : St1 i s.heap) (st2 : St2 i s.heap) (hlt1 : i < n1) (hlt2 : i < n2)
    (hQ : ∀ x1 x2 h' tk, P1 i x1 → P2 i x2 → IsZipHeld h' z TI TO T true → St1 (i + 1) h' → St2 (i + 1) h' → IsTupOf2 h' s.heap.objs.size x1 x2 → h'.objs.size = s.heap.objs.size + 1 →
      (∀ c o, c ≠ z → c ≠ i1 → c ≠ i2 → s.heap.get? c = some o → h'.get? c = some o) → Q (.ref s.heap.objs.size) { s with heap := h', toks := tk }) :
    wpAny (model prog w) A (Builtin.«zip.__next__» ⟨[.ref z], []⟩) (fun fin s' => ∃ v, fin = .done (.ret v) ∧ Q v s') E s := by
  obtain ⟨hp, g, d, tk0, os⟩ := s
  show wpAny _ _ (field (.ref z) 2 >>= _) _ _ _
  refine wpAny_bind (wpAny_field hz rfl (x := .bool false) rfl ?_)
  show wpAny _ _ (field (.ref z) 3 >>= _) _ _ _
  refine wpAny_bind (wpAny_field hz rfl (x := .ref TI) rfl ?_)
  refine wpAny_bind (wpAny_seqItems hTI rfl ?_)
  show wpAny _ _ (Builtin.SmallTypes.ownedTupleIsFree (.ref z) >>= _) _ _ _
  refine wpAny_bind (wpAny_tupleHeld_zip hz hT fun h₁ hz₁ hs₁ => ?_)
  replace hs₁ : Heap.SameBut z hp h₁ := hs₁
  simp only [Bool.false_eq_true, if_false]
  refine wpAny_bind ?_
  rw [← Array.forIn_toList]
  simp only [List.forIn_cons, List.forIn_nil]
  refine wpAny_bind (wpAny_bind (wpAny_holding ?_))
  show wpAny _ _ (Builtin.SmallTypes.nextOf (.ref i1) >>= _) _ _ ⟨h₁, g, d, tk0, os⟩
  refine wpAny_bind (D1.item i _ _ _ hlt1 (D1.over st1 hs₁ S.zf1) fun x1 h₂ tk1 hx1 sn1 hs₂ => wpAny_pure ?_)
  replace hs₂ : Heap.SameBut i1 h₁ h₂ := hs₂
  refine wpAny_pure ?_
  refine wpAny_bind (wpAny_bind (wpAny_holding ?_))
  show wpAny _ _ (Builtin.SmallTypes.nextOf (.ref i2) >>= _) _ _ ⟨h₂, g, d, tk1, os⟩
  refine wpAny_bind (D2.item i _ _ _ hlt2 (D2.over (D2.over st2 hs₁ S.zf2) hs₂ S.sep1_2) fun x2 h₃ tk2 hx2 sn2 hs₃ => wpAny_pure ?_)
  replace hs₃ : Heap.SameBut i2 h₂ h₃ := hs₃
  refine wpAny_pure (wpAny_pure ?_)
  show wpAny _ _ (newTuple [x1, x2] >>= _) _ _ ⟨h₃, g, d, tk2, os⟩
  refine wpAny_bind (wpAny_newTuple ?_)
  have hsz : h₃.objs.size = hp.objs.size := by rw [hs₃.1, hs₂.1, hs₁.1]
  have hz₃ : IsZipHeld h₃ z TI TO T true := hs₃.extBut _ _ S.zi2 (hs₂.extBut _ _ S.zi1 hz₁)
  have hk : ∀ c o, c ≠ z → c ≠ i1 → c ≠ i2 → hp.get? c = some o → h₃.get? c = some o := fun c o c1 c2 c3 e => hs₃.extBut _ _ c3 (hs₂.extBut _ _ c2 (hs₁.extBut _ _ c1 e))
  have sn1' : St1 (i + 1) h₃ := D1.over sn1 hs₃ S.sep2_1
  refine wpAny_pure ⟨_, rfl, ?_⟩
  show Q (.ref h₃.objs.size) _
  have hpr : IsTupOf2 (h₃.push { cls := .type "tuple", data := .seq #[x1, x2] }) h₃.objs.size x1 x2 := Heap.get?_push_size _ rfl
  have hz4 : (h₃.push { cls := .type "tuple", data := .seq #[x1, x2] }).objs.size = h₃.objs.size + 1 := Heap.size_push ..
  rw [hsz] at hpr hz4 ⊢
  exact hQ x1 x2 _ tk2 hx1 hx2 (Heap.get?_push_of_some _ hz₃) (D1.frame _ _ _ sn1' fun b _ o e => Heap.get?_push_of_some _ e) (D2.frame _ _ _ sn2 fun b _ o e => Heap.get?_push_of_some _ e) hpr hz4 fun c o c1 c2 c3 e => Heap.get?_push_of_some _ (hk c o c1 c2 c3 e)
theorem zipH_end {Q : PySem.Fin → Shared → Prop} (S : ZipSep2 z TI TO i1 i2 fp1 fp2) (D1 : Draws prog w A i1 fp1 n1 P1 St1) (D2 : Draws prog w A i2 fp2 n2 P2 St2)
    (hz : IsZipHeld s.heap z TI TO T f) (hT : s.heap.get? T = some oT) (hTI : IsTupOf2 s.heap TI (.ref i1) (.ref i2)) (st1 : St1 i s.heap) (st2 : St2 i s.heap) (hle1 : i ≤ n1) (hend : i = n1 ∨ i = n2)
    (hE : ∀ h' tk e, (∀ c o, c ≠ z → c ≠ i1 → c ≠ i2 → s.heap.get? c = some o → h'.get? c = some o) → (∃ o, h'.get? e = some o ∧ o.cls = .type "StopIteration") → E (.ref e) { s with heap := h', toks := tk }) :
    wpAny (model prog w) A (Builtin.«zip.__next__» ⟨[.ref z], []⟩) Q E s := by
  obtain ⟨hp, g, d, tk0, os⟩ := s
  show wpAny _ _ (field (.ref z) 2 >>= _) _ _ _
  refine wpAny_bind (wpAny_field hz rfl (x := .bool false) rfl ?_)
  show wpAny _ _ (field (.ref z) 3 >>= _) _ _ _
  refine wpAny_bind (wpAny_field hz rfl (x := .ref TI) rfl ?_)
  refine wpAny_bind (wpAny_seqItems hTI rfl ?_)
  show wpAny _ _ (Builtin.SmallTypes.ownedTupleIsFree (.ref z) >>= _) _ _ _
  refine wpAny_bind (wpAny_tupleHeld_zip hz hT fun h₁ hz₁ hs₁ => ?_)
  replace hs₁ : Heap.SameBut z hp h₁ := hs₁
  simp only [Bool.false_eq_true, if_false]
  refine wpAny_bind ?_
  rw [← Array.forIn_toList]
  simp only [List.forIn_cons, List.forIn_nil]
  refine wpAny_bind (wpAny_bind (wpAny_holding ?_))
  show wpAny _ _ (Builtin.SmallTypes.nextOf (.ref i1) >>= _) _ _ ⟨h₁, g, d, tk0, os⟩
  by_cases hlt1 : i < n1
  · have hi2 : i = n2 := by omega
    refine wpAny_bind (D1.item i _ _ _ hlt1 (D1.over st1 hs₁ S.zf1) fun x1 h₂ tk1 hx1 sn1 hs₂ => wpAny_pure ?_)
    replace hs₂ : Heap.SameBut i1 h₁ h₂ := hs₂
    refine wpAny_pure ?_
    refine wpAny_bind (wpAny_bind (wpAny_holding ?_))
    show wpAny _ _ (Builtin.SmallTypes.nextOf (.ref i2) >>= _) _ _ ⟨h₂, g, d, tk1, os⟩
    refine wpAny_bind (D2.done ⟨h₂, g, d, tk1, os⟩ _ _ (by rw [← hi2]; exact D2.over (D2.over st2 hs₁ S.zf2) hs₂ S.sep1_2) fun h₃ e hs₃ he => ?_)
    exact hE h₃ tk1 e (fun c o c1 c2 c3 x => hs₃ _ _ c3 (hs₂.extBut _ _ c2 (hs₁.extBut _ _ c1 x))) he
  · have hi1 : i = n1 := by omega
    refine wpAny_bind (D1.done ⟨h₁, g, d, tk0, os⟩ _ _ (by rw [← hi1]; exact D1.over st1 hs₁ S.zf1) fun h₂ e hs₂ he => ?_)
    exact hE h₂ tk0 e (fun c o c1 c2 _ x => hs₂ _ _ c2 (hs₁.extBut _ _ c1 x)) he
theorem next_zipH_item {Q : Option Value → Shared → Prop} (S : ZipSep2 z TI TO i1 i2 fp1 fp2) (D1 : Draws prog w A.in1 i1 fp1 n1 P1 St1) (D2 : Draws prog w A.in1 i2 fp2 n2 P2 St2)
    (hz : IsZipHeld s.heap z TI TO T f) (hT : s.heap.get? T = some oT) (hTI : IsTupOf2 s.heap TI (.ref i1) (.ref i2)) (st1 : St1 i s.heap) (st2 : St2 i s.heap) (hlt1 : i < n1) (hlt2 : i < n2)
    (hQ : ∀ x1 x2 h' tk, P1 i x1 → P2 i x2 → IsZipHeld h' z TI TO T true → St1 (i + 1) h' → St2 (i + 1) h' → IsTupOf2 h' s.heap.objs.size x1 x2 → h'.objs.size = s.heap.objs.size + 1 →
      (∀ c o, c ≠ z → c ≠ i1 → c ≠ i2 → s.heap.get? c = some o → h'.get? c = some o) → Q (some (.ref s.heap.objs.size)) { s with heap := h', toks := tk }) :
    wpAny (model prog w) A (pyNext (.ref z)) Q E s := by
  have hTy : s.TypeIs (.ref z) "zip" := ⟨_, hz, rfl⟩
  unfold pyNext
  exact wpAny_bind (wpAny_attempt (wpAny_callSpecial?_slot (name := Str.ofString "__next__") hTy F.slot_zip_next
    (wpAny_call_entry F.slot_zip_next hTy F.entry_zip_next
      (zipH_item S D1 D2 hz hT hTI st1 st2 hlt1 hlt2 fun x1 x2 h' tk b1 b2 a1 a3 a4 a5 a6 a7 => wpAny_pure (hQ x1 x2 h' tk b1 b2 a1 a3 a4 a5 a6 a7)) (F.args_zip_next_1 _))))
theorem next_zipH_end {Q : Option Value → Shared → Prop} (S : ZipSep2 z TI TO i1 i2 fp1 fp2) (D1 : Draws prog w A.in1 i1 fp1 n1 P1 St1) (D2 : Draws prog w A.in1 i2 fp2 n2 P2 St2)
    (hz : IsZipHeld s.heap z TI TO T f) (hT : s.heap.get? T = some oT) (hTI : IsTupOf2 s.heap TI (.ref i1) (.ref i2)) (st1 : St1 i s.heap) (st2 : St2 i s.heap) (hle1 : i ≤ n1) (hend : i = n1 ∨ i = n2)
    (hQ : ∀ h' tk, (∀ c o, c ≠ z → c ≠ i1 → c ≠ i2 → s.heap.get? c = some o → h'.get? c = some o) → Q none { s with heap := h', toks := tk }) : wpAny (model prog w) A (pyNext (.ref z)) Q E s := by
  have hTy : s.TypeIs (.ref z) "zip" := ⟨_, hz, rfl⟩
  unfold pyNext
  refine wpAny_bind (wpAny_attempt (wpAny_callSpecial?_slot (name := Str.ofString "__next__") hTy F.slot_zip_next
    (wpAny_call_entry F.slot_zip_next hTy F.entry_zip_next (zipH_end S D1 D2 hz hT hTI st1 st2 hle1 hend fun h' tk e hk he => ?_) (F.args_zip_next_1 _))))
  obtain ⟨o, ho, hc⟩ := he
  refine wpAny_bind (wpAny_isInstance (T := "StopIteration") (b := true) ⟨o, ho, hc⟩ isSubtype_stop ?_)
  exact wpAny_pure (hQ _ _ hk)
end
end G6

namespace G6
open PySem
section
variable {prog : Program} {w : World}
theorem pairArg_zip {z TI TO i1 i2 : Addr} {fp1 fp2 : List Addr} {n1 n2 : Nat} {P1 P2 : Nat → Value → Prop} {St1 St2 : Nat → Heap → Prop} (A0 : Around) (h0 : A0.handled = none) (S : ZipSep2 z TI TO i1 i2 fp1 fp2)
    (D1 : ∀ A : Around, A.handled = none → Draws prog w A i1 fp1 n1 P1 St1) (D2 : ∀ A : Around, A.handled = none → Draws prog w A i2 fp2 n2 P2 St2)
    (L1 : ∀ i h, St1 i h → ∀ b ∈ fp1, ∃ o, h.get? b = some o) (L2 : ∀ i h, St2 i h → ∀ b ∈ fp2, ∃ o, h.get? b = some o) :
    PairArg prog w "zip" z (z :: TI :: TO :: (fp1 ++ fp2)) [z, TO, i1, i2] (min n1 n2) (fun i k v => P1 i k ∧ P2 i v)
      (fun h => IsZip h z TI TO .none ∧ IsTupOf2 h TI (.ref i1) (.ref i2) ∧ (∃ a b, IsTupOf2 h TO a b) ∧ St1 0 h ∧ St2 0 h) where
  type := fun s ok => ⟨_, ok.1, rfl⟩
  notDict := by decide
  keep := fun h h' ok hk => by
    obtain ⟨hz, hTI, ⟨a, b, hTO⟩, h1, h2⟩ := ok
    exact ⟨hk _ _ hz, hk _ _ hTI, ⟨a, b, hk _ _ hTO⟩, (D1 A0 h0).frame _ _ _ h1 fun b _ o e => hk _ o e, (D2 A0 h0).frame _ _ _ h2 fun b _ o e => hk _ o e⟩
  there := fun h ok b hb => by
    obtain ⟨hz, hTI, ⟨a, c, hTO⟩, h1, h2⟩ := ok
    simp only [List.mem_cons, List.mem_append] at hb
    rcases hb with rfl | rfl | rfl | hb | hb
    · exact ⟨_, hz⟩
    · exact ⟨_, hTI⟩
    · exact ⟨_, hTO⟩
    · exact L1 _ _ h1 b hb
    · exact L2 _ _ h2 b hb
  sub := fun b hb => by
    have m1 := S.mem1
    have m2 := S.mem2
    simp only [List.mem_cons, List.not_mem_nil, or_false, List.mem_append] at hb ⊢
    rcases hb with rfl | rfl | rfl | rfl
    · exact .inl rfl
    · exact .inr (.inr (.inl rfl))
    · exact .inr (.inr (.inr (.inl m1)))
    · exact .inr (.inr (.inr (.inr m2)))
  noKeys := fun A s Q E hA ok h => getAttrOr_miss_zip ok.1 rfl rfl rfl zip_no_keys (by decide +kernel) hA h
  iter := fun A s d Q E hA ok hd hdf h => by
    obtain ⟨hz, hTI, ⟨a, b, hTO⟩, h1, h2⟩ := ok
    simp only [List.mem_cons, List.mem_append, not_or] at hdf
    obtain ⟨dz, dTI, dTO, df1, df2⟩ := hdf
    have di1 : d ≠ i1 := fun e => df1 (e ▸ S.mem1)
    have di2 : d ≠ i2 := fun e => df2 (e ▸ S.mem2)
    have E1 := D1 A.in1 hA
    have E2 := D2 A.in1 hA
    refine wpAny_pyIter_zip hz (h z [z, TO, i1, i2] (fun i h => IsTupOf2 h TI (.ref i1) (.ref i2) ∧ St1 i h ∧ St2 i h ∧
      ((IsZip h z TI TO .none ∧ ∃ a b, IsTupOf2 h TO a b) ∨ ∃ T f oT, IsZipHeld h z TI TO T f ∧ h.get? T = some oT ∧ T ≠ z ∧ T ≠ i1 ∧ T ≠ i2 ∧ T ≠ d)) s.heap s.toks ?_
      ⟨hTI, h1, h2, .inl ⟨hz, a, b, hTO⟩⟩ (fun _ _ e => e) fun b hb => .inl hb)
    exact {
      off := fun hm => by
        simp only [List.mem_cons, List.not_mem_nil, or_false] at hm
        rcases hm with e | e | e | e
        · exact dz e
        · exact dTO e
        · exact di1 e
        · exact di2 e
      frame := fun i h₁ h₂ st hk => by
        obtain ⟨hTI, h1, h2, hz⟩ := st
        refine ⟨hk _ _ (Ne.symm dTI) hTI, E1.frame _ _ _ h1 fun b hb o e => hk _ o (fun q => df1 (q ▸ hb)) e, E2.frame _ _ _ h2 fun b hb o e => hk _ o (fun q => df2 (q ▸ hb)) e, ?_⟩
        rcases hz with ⟨hz, a, b, hTO⟩ | ⟨T, f, oT, hz, hT, r1, r2, r3, r4⟩
        · exact .inl ⟨hk _ _ (Ne.symm dz) hz, a, b, hk _ _ (Ne.symm dTO) hTO⟩
        · exact .inr ⟨T, f, oT, hk _ _ (Ne.symm dz) hz, hk _ _ r4 hT, r1, r2, r3, r4⟩
      item := fun i s₁ Q₁ E₁ hi st hds hQ => by
        obtain ⟨hTI, h1, h2, hz⟩ := st
        have hix : i < n1 := Nat.lt_of_lt_of_le hi (Nat.min_le_left ..)
        have hiy : i < n2 := Nat.lt_of_lt_of_le hi (Nat.min_le_right ..)
        have lt : ∀ {c o}, s₁.heap.get? c = some o → s₁.heap.objs.size ≠ c := fun e => Nat.ne_of_gt (Heap.lt_size e)
        have n1 : s₁.heap.objs.size ≠ i1 := let ⟨_, e⟩ := E1.live _ _ h1; lt e
        have n2 : s₁.heap.objs.size ≠ i2 := let ⟨_, e⟩ := E2.live _ _ h2; lt e
        rcases hz with ⟨hz, a, b, hTO⟩ | ⟨T, f, oT, hz, hT, r1, r2, r3, r4⟩
        · refine wpAny_pyNext_zipD2_item S E1 E2 hz hTI hTO h1 h2 hix hiy fun x1 x2 h' tk p1 p2 a1 a2 a3 a4 a5 a6 hk => ?_
          exact hQ s₁.heap.objs.size _ _ h' tk ⟨p1, p2⟩ (.inl ⟨_, a5, rfl, _, rfl⟩)
            ⟨hk _ _ S.TIz S.TITO S.TIi1 S.TIi2 hTI, a3, a4, .inr ⟨s₁.heap.objs.size, false, _, a1, a5, lt hz, n1, n2, Nat.ne_of_gt hds⟩⟩
            fun c o hc e => hk c o (fun x => hc (by simp [x])) (fun x => hc (by simp [x])) (fun x => hc (by simp [x])) (fun x => hc (by simp [x])) e
        · refine next_zipH_item S E1 E2 hz hT hTI h1 h2 hix hiy fun x1 x2 h' tk p1 p2 a1 a3 a4 a5 a6 hk => ?_
          exact hQ s₁.heap.objs.size _ _ h' tk ⟨p1, p2⟩ (.inl ⟨_, a5, rfl, _, rfl⟩)
            ⟨hk _ _ S.TIz S.TIi1 S.TIi2 hTI, a3, a4, .inr ⟨T, true, oT, a1, hk _ _ r1 r2 r3 hT, r1, r2, r3, r4⟩⟩
            fun c o hc e => hk c o (fun x => hc (by simp [x])) (fun x => hc (by simp [x])) (fun x => hc (by simp [x])) e
      done := fun s₁ Q₁ E₁ st hQ => by
        obtain ⟨hTI, h1, h2, hz⟩ := st
        have hend : min n1 n2 = n1 ∨ min n1 n2 = n2 := by omega
        rcases hz with ⟨hz, a, b, hTO⟩ | ⟨T, f, oT, hz, hT, r1, r2, r3, r4⟩
        · exact wpAny_pyNext_zipD2_end S E1 E2 hz hTI hTO h1 h2 (Nat.min_le_left ..) (Nat.min_le_right ..) hend fun h' tk hk => hQ h' tk fun c o hc e => hk c o (fun x => hc (by simp [x])) (fun x => hc (by simp [x])) (fun x => hc (by simp [x])) (fun x => hc (by simp [x])) e
        · exact next_zipH_end S E1 E2 hz hT hTI h1 h2 (Nat.min_le_left ..) hend fun h' tk hk => hQ h' tk fun c o hc e => hk c o (fun x => hc (by simp [x])) (fun x => hc (by simp [x])) (fun x => hc (by simp [x])) e }
/-! ### a list or a tuple that is walked -/
def SeqV (b : Bool) (h : Heap) (l : Addr) (items : Array Value) : Prop := if b then h.IsTuple l items else h.IsList l items
def ItV (b : Bool) (h : Heap) (it l : Addr) (k : Nat) : Prop := if b then h.IsTupleIter it l k else h.IsListIter it l k
def begV (b : Bool) (l : Addr) : Obj := if b then { cls := .type "tuple_iterator", data := .fields #[.ref l, .int 0 0] } else { cls := .type "list_iterator", data := .fields #[.ref l, .int 0 0] }
theorem draws_v (b : Bool) {A : Around} (hh : A.handled = none) (it l : Addr) (hne : l ≠ it) (items : Array Value) : Draws prog w A it [it, l] items.size (fun i v => items[i]? = some v) (fun i h => ItV b h it l i ∧ SeqV b h l items) := by
  cases b
  · exact Draws.list hh it l hne items
  · exact Draws.tuple hh it l hne items
theorem begins_v (b : Bool) (l : Addr) (items : Array Value) : Begins (.ref l) (begV b l) fun h => SeqV b h l items := by
  cases b
  · exact begins_list l items
  · exact begins_tuple l items
theorem itV_new (b : Bool) {h : Heap} {it l : Addr} (e : h.get? it = some (begV b l)) : ItV b h it l 0 := by
  cases b
  · exact ⟨_, e, rfl, rfl⟩
  · exact ⟨_, e, rfl, rfl⟩
theorem SeqV.at {b : Bool} {h h' : Heap} {l : Addr} {items : Array Value} (x : SeqV b h l items) (e : ∀ o, h.get? l = some o → h'.get? l = some o) : SeqV b h' l items := by
  cases b
  · exact Heap.IsList.at x e
  · exact Heap.IsTuple.at x e
theorem SeqV.there {b : Bool} {h : Heap} {l : Addr} {items : Array Value} (x : SeqV b h l items) : ∃ o, h.get? l = some o := by
  cases b
  · obtain ⟨o, ho, _⟩ := x; exact ⟨o, ho⟩
  · obtain ⟨o, ho, _⟩ := x; exact ⟨o, ho⟩
theorem ItV.there {b : Bool} {h : Heap} {it l : Addr} {k : Nat} (x : ItV b h it l k) : ∃ o, h.get? it = some o := by
  cases b
  · obtain ⟨o, ho, _⟩ := x; exact ⟨o, ho⟩
  · obtain ⟨o, ho, _⟩ := x; exact ⟨o, ho⟩
end
end G6

namespace G6
open PySem PySem.Spec L2
section
variable {X : Cx}
/-- an operand that is a list or a tuple, in the heap -/
theorem seq_at {pins : List (Addr × Obj)} {σ : L2.St} {G H : Hp} {s : Shared} {v : V} {u : Value} {d : D} {xs : List D} (I : Inv X pins σ H s) (sm : Same G H) (h : Op1 G H v d) (hd : seqD d = some xs) (r : RelV v u) :
    ∃ (b : Bool) (a : Addr) (vs : List V) (its : List Value), u = .ref a ∧ Vals vs its ∧ SeqV b s.heap a its.toArray ∧ RpAll G vs xs := by
  cases d with
  | list ds =>
    cases hd
    obtain ⟨a, vs, rfl, ra, ha⟩ := op1_list sm h
    obtain ⟨its, rv, p, hz⟩ := I.list (sqL ra)
    cases r
    exact ⟨false, a, vs, its, rfl, rv, p.isList, ha⟩
  | tuple ds =>
    cases hd
    obtain ⟨a, vs, rfl, ga, ra, ha⟩ := op1_tuple sm h
    obtain ⟨its, rv, p, hz⟩ := I.tuple (sqT ra)
    cases r
    exact ⟨true, a, vs, its, rfl, rv, p, ha⟩
  | _ => cases hd
/-- zip(a, b) of two of these -/
theorem zip_at {pins : List (Addr × Obj)} {σ : L2.St} {H : Hp} {s : Shared} {a1 a2 : Addr} {b1 b2 : Bool} {i1 i2 : List Value} {Q : Value → Shared → Prop} {E : Value → Shared → Prop} {A : Around} (h1 : SeqV b1 s.heap a1 i1.toArray) (h2 : SeqV b2 s.heap a2 i2.toArray)
    (h : ∀ h', IsZip h' (s.heap.objs.size + 4) (s.heap.objs.size + 2) (s.heap.objs.size + 3) .none ∧ IsTupOf2 h' (s.heap.objs.size + 2) (.ref s.heap.objs.size) (.ref (s.heap.objs.size + 1)) ∧
      (∃ a b, IsTupOf2 h' (s.heap.objs.size + 3) a b) ∧ (ItV b1 h' s.heap.objs.size a1 0 ∧ SeqV b1 h' a1 i1.toArray) ∧ (ItV b2 h' (s.heap.objs.size + 1) a2 0 ∧ SeqV b2 h' a2 i2.toArray) → h'.objs.size = s.heap.objs.size + 5 →
      (∀ c o, s.heap.get? c = some o → h'.get? c = some o) → Q (.ref (s.heap.objs.size + 4)) { s with heap := h' }) :
    wpAny (model X.prog X.w) A (call (.type "zip") [.ref a1, .ref a2]) Q E s := by
  refine zip_begins2 (begins_v b1 a1 i1.toArray) (begins_v b2 a2 i2.toArray) h1 h2 fun h' hz hTI hTO ho1 ho2 hsz hk => ?_
  exact h h' ⟨hz, hTI, ⟨_, _, hTO⟩, ⟨itV_new b1 ho1, h1.at fun o e => hk _ o e⟩, ⟨itV_new b2 ho2, h2.at fun o e => hk _ o e⟩⟩ hsz hk
theorem zip_arg {N : Nat} {a1 a2 : Addr} {b1 b2 : Bool} {i1 i2 : List Value} (hA : X.A.handled = none) (l1 : a1 < N) (l2 : a2 < N) :
    PairArg X.prog X.w "zip" (N + 4) ((N + 4) :: (N + 2) :: (N + 3) :: ([N, a1] ++ [N + 1, a2])) [N + 4, N + 3, N, N + 1] (min i1.toArray.size i2.toArray.size) (fun i k v => i1.toArray[i]? = some k ∧ i2.toArray[i]? = some v)
      (fun h => IsZip h (N + 4) (N + 2) (N + 3) .none ∧ IsTupOf2 h (N + 2) (.ref N) (.ref (N + 1)) ∧ (∃ a b, IsTupOf2 h (N + 3) a b) ∧ (ItV b1 h N a1 0 ∧ SeqV b1 h a1 i1.toArray) ∧ (ItV b2 h (N + 1) a2 0 ∧ SeqV b2 h a2 i2.toArray)) :=
  pairArg_zip (St1 := fun i h => ItV b1 h N a1 i ∧ SeqV b1 h a1 i1.toArray) (St2 := fun i h => ItV b2 h (N + 1) a2 i ∧ SeqV b2 h a2 i2.toArray) X.A hA
    (zip_sep2 (N := N) (fp1 := [a1]) (fp2 := [a2]) (by simpa using l1) (by simpa using l2))
    (fun A hh => draws_v b1 hh N a1 (Nat.ne_of_lt l1) i1.toArray) (fun A hh => draws_v b2 hh (N + 1) a2 (Nat.ne_of_lt (Nat.lt_succ_of_lt l2)) i2.toArray)
    (fun i h st b hb => by
      simp only [List.mem_cons, List.not_mem_nil, or_false] at hb
      rcases hb with rfl | rfl
      · exact st.1.there
      · exact st.2.there)
    (fun i h st b hb => by
      simp only [List.mem_cons, List.not_mem_nil, or_false] at hb
      rcases hb with rfl | rfl
      · exact st.1.there
      · exact st.2.there)
theorem kv_zip : ∀ {ks : List Key} {i1 : List Value} {ws : List V} {i2 : List Value}, Vals (ks.map kV) i1 → Vals ws i2 → KV (ks.zip ws) (ks.zip i2)
  | [], _, _, _, _, _ => .nil
  | _ :: _, _, _, _, .cons _ _, .nil => .nil
  | _ :: _, _, _, _, .cons _ r, .cons h t => .cons ⟨rfl, h⟩ (kv_zip r t)
theorem rpk_zip {G : Hp} : ∀ {ks : List Key} {ws : List V} {ys : List D}, RpAll G ws ys → RpK G (ks.zip ws) ((ks.map kD).zip ys)
  | [], _, _, _ => .nil
  | _ :: _, _, _, .nil => .nil
  | _ :: _, _, _, .cons h t => .cons h (rpk_zip t)
theorem keys_rel : ∀ {ks : List Key} {i1 i2 : List Value} (i : Nat) {u v : Value}, Vals (ks.map kV) i1 → i1[i]? = some u → i2[i]? = some v → ∃ k, (ks.zip i2)[i]? = some (k, v) ∧ RelV (kV k) u
  | [], _, _, i, u, v, r, h1, _ => by cases r; simp at h1
  | k :: ks, _, [], i, u, v, _, _, h2 => by simp at h2
  | k :: ks, _, y :: i2, i, u, v, .cons r rs, h1, h2 => by
    cases i with
    | zero =>
      simp only [List.getElem?_cons_zero, Option.some.injEq] at h1 h2
      subst h1 h2
      exact ⟨k, rfl, r⟩
    | succ i =>
      simp only [List.getElem?_cons_succ] at h1 h2
      obtain ⟨k', e, r'⟩ := keys_rel i rs h1 h2
      exact ⟨k', by simpa using e, r'⟩
theorem pe_dictZip {a b : Expr} {t : TA} {p q pos gpos : Pos} (hc : X.calm = true) (g1 : Gl X "dict") (m1 : X.mg "dict" = none) (g2 : Gl X "zip") (m2 : X.mg "zip" = none) (ns : notStar a = true) (ns2 : notStar b = true) (ha : PA X [a, b] t) :
    PE X (.Call (.Name "dict" p) [.Call (.Name "zip" q) [a, b] [] gpos] [] pos) (tCB (rN pDictZip) t) := by
  refine ⟨fun pins s σ H Q I h => ?_⟩
  refine wpAny_Call_Name_kw (ld_blt I g1 m1 (u := .type "dict") (by decide +kernel) ?_ (by decide) (by decide))
  refine PyProof.Rows.callWith_type1 ?_ rfl rfl
  show wpAny _ _ (spliced ((false, eval (.Call (.Name "zip" q) [a, b] [] gpos) X.env) :: backTo pos (starEach [] X.env))) _ _ s
  refine Calls.spliced_cons ?_
  refine wpAny_Call_Name_kw (ld_blt I g2 m2 (u := .type "zip") (by decide +kernel) ?_ (by decide) (by decide))
  refine PyProof.Rows.callWith_type1 (thn (ha.run gpos pins s σ H _ I h) fun us s1 ⟨vs, H1, I1, r1, q1⟩ => ?_) (star_ofS ns _) (by rw [star_ofS ns2]; rfl)
  obtain ⟨G, ds, res, sm, ops, hf, hq⟩ := q1
  unfold pDictZip at hf
  split at hf
  · rename_i d1 d2
    split at hf
    · rename_i xs ys e1 e2
      split at hf
      · rename_i ok
        cases hf
        simp only [Bool.and_eq_true, decide_eq_true_eq] at ok
        obtain ⟨⟨l1, l2⟩, fl⟩ := ok
        obtain ⟨v, w, ev, o1, o2⟩ := op1s_two ops
        subst ev
        obtain ⟨u1, u2, rfl, ru1, ru2⟩ := vals2 r1
        obtain ⟨b1, a1, vs1, i1, rfl, rv1, s1', rp1⟩ := seq_at I1 sm o1 e1 ru1
        obtain ⟨b2, a2, vs2, i2, rfl, rv2, s2', rp2⟩ := seq_at I1 sm o2 e2 ru2
        obtain ⟨ks, rfl, rfl⟩ := keys_of rp1 fl
        refine zip_at (X := X) (pins := pins) (σ := σ) (H := H1) s1' s2' fun h' ok' hsz hk => ?_
        refine Calls.spliced_nil ?_
        obtain ⟨oa1, ha1⟩ := s1'.there
        obtain ⟨oa2, ha2⟩ := s2'.there
        have lt1 : a1 < s1.heap.objs.size := Heap.lt_size ha1
        have lt2 : a2 < s1.heap.objs.size := Heap.lt_size ha2
        have n1 : i1.length = ks.length := by rw [← rv1.length, List.length_map]
        refine PySem.call_dict_pairs (s := { s1 with heap := h' }) (knd := mixKind X.prog X.w) (kvs := ks.zip i2) (zip_arg (I1.ok.hd hc) lt1 lt2) (I1.ok.hd hc) ok' ⟨by simp [n1], fun i key v rel => ?_⟩ (by
          have : i1.length ≤ 1000 := by rw [n1]; simpa using l1
          rw [sizeLine_eq]
          simp only [List.size_toArray]
          omega) fun h'' tk hd' hk' => ?_
        · have r1 : i1[i]? = some key := by simpa using rel.1
          have r2 : i2[i]? = some v := by simpa using rel.2
          obtain ⟨k, e, r⟩ := keys_rel i rv1 r1 r2
          exact ⟨k, e, kV_is (P := X.prog) (w := X.w) r⟩
        · have big : s1.heap.objs.size ≤ h'.objs.size := by omega
          have keep : ∀ b o, s1.heap.get? b = some o → h''.get? b = some o := fun b o e => by
            refine hk' b o (fun hm => ?_) (hk b o e)
            have lt := Heap.lt_size e
            simp only [List.mem_cons, List.not_mem_nil, or_false] at hm
            rcases hm with z | z | z | z <;> (rw [z] at lt; exact absurd lt (by first | exact Nat.lt_irrefl _ | exact Nat.not_lt.mpr (Nat.le_add_right _ _)))
          have hm : (h'.objs.size == sysModules) = false := beq_eq_false_iff_ne.mpr (Nat.ne_of_gt (Nat.lt_of_lt_of_le I1.big big))
          have hlen : (mergeK [] (ks.zip vs2)).length ≤ sizeLine := by
            refine Nat.le_trans (length_mergeK _ []) ?_
            rw [List.length_nil, Nat.zero_add, List.length_zip, sizeLine_eq]
            have : ks.length ≤ 1000 := by simpa using l1
            omega
          exact ⟨.ref h'.objs.size, upd H1 h'.objs.size (.dK (mergeK [] (ks.zip vs2))), I1.laid (t' := tk) keep big (show ObjOk X.prog X.w _ _ _ (.dK (mergeK [] (ks.zip vs2))) from ⟨hlen, hm, merged [] (ks.zip i2), KV.merge (kv_zip rv1 rv2) .nil, hd'⟩), rfl, hq _ _ (.new (I1.hok.fresh big) (.dk (RpK.merge (rpk_zip rp2) .nil)))⟩
      · cases hf
    · cases hf
  · cases hf
end
end G6

namespace G6
open PySem PySem.Spec L2
/-! ### for a, b in zip(x, y): lists and tuples in any mix -/
def SqV (b : Bool) (K : PySem.W.Frag) (H : Hp) (a : Addr) (xs : List V) : Prop := if b then SqT K H a xs else SqL K H a xs
theorem SqV.at' {X : Cx} {b : Bool} {pins : List (Addr × Obj)} {σ : L2.St} {H : Hp} {s : Shared} {a : Addr} {xs : List V} (I : Inv X pins σ H s) (h : SqV b X.K H a xs) : ∃ its : List Value, Vals xs its ∧ SeqV b s.heap a its.toArray := by
  cases b with
  | false =>
    obtain ⟨its, rv, p, _⟩ := I.list h
    exact ⟨its, rv, p.isList⟩
  | true =>
    obtain ⟨its, rv, p, _⟩ := I.tuple h
    exact ⟨its, rv, p⟩
theorem SqV.inj {X : Cx} {b : Bool} {pins : List (Addr × Obj)} {σ : L2.St} {H : Hp} {s : Shared} {a : Addr} {xs ys : List V} (I : Inv X pins σ H s) (h : SqV b X.K H a xs) (h' : SqV b X.K H a ys) : xs = ys := by
  cases b with
  | false => exact I.list_inj h h'
  | true => exact I.tuple_inj h h'
def ItzV (K : PySem.W.Frag) (b1 b2 : Bool) (a b : Addr) : L2.It :=
  ⟨fun i H => ∃ (xs ys : List V) (x y : V), SqV b1 K H a xs ∧ SqV b2 K H b ys ∧ xs[i]? = some x ∧ ys[i]? = some y,
   fun i H v H' => ∃ T x y, v = .ref T ∧ H T = none ∧ H' = upd H T (.tup [x, y]) ∧ (∀ xs, SqV b1 K H a xs → xs[i]? = some x) ∧ ∀ ys, SqV b2 K H b ys → ys[i]? = some y,
   fun i H => ∃ xs ys : List V, SqV b1 K H a xs ∧ SqV b2 K H b ys ∧ (xs.length ≤ i ∨ ys.length ≤ i)⟩
section
variable {prog : Program} {w : World} {A : Around} {E : Value → Shared → Prop} {s : Shared}
theorem nextOf_endV (b : Bool) {it l : Addr} {i : Nat} {items : Array Value} {Q : Value → Shared → Prop} (hh : A.handled = none) (hit : ItV b s.heap it l i) (hl : SeqV b s.heap l items) (hx : items[i]? = none)
    (hE : ∀ h' e, Heap.ExtBut it s.heap h' → (∃ o, h'.get? e = some o ∧ o.cls = .type "StopIteration") → E (.ref e) { s with heap := h' }) : wpAny (model prog w) A (Builtin.SmallTypes.nextOf (.ref it)) Q E s := by
  cases b
  · exact wpAny_nextOf_list_end hh hit hl hx hE
  · exact wpAny_nextOf_tuple_end hh hit hl hx hE
theorem zipV_end {b1 b2 : Bool} {z TI TO i1 i2 a b : Addr} {xs ys : Array Value} {i : Nat} {a1 a2 : Value} {Q : PySem.Fin → Shared → Prop} (hh : A.handled = none) (S : ZipSep2 z TI TO i1 i2 [i1, a] [i2, b]) (ai : a ≠ i1) (bi : b ≠ i2)
    (hz : IsZip s.heap z TI TO .none) (hTI : IsTupOf2 s.heap TI (.ref i1) (.ref i2)) (hTO : IsTupOf2 s.heap TO a1 a2) (st1 : ItV b1 s.heap i1 a i ∧ SeqV b1 s.heap a xs) (st2 : ItV b2 s.heap i2 b i ∧ SeqV b2 s.heap b ys) (hend : xs[i]? = none ∨ ys[i]? = none)
    (hE : ∀ h' tk e, (∀ c o, c ≠ z → c ≠ TO → c ≠ i1 → c ≠ i2 → s.heap.get? c = some o → h'.get? c = some o) → (∃ o, h'.get? e = some o ∧ o.cls = .type "StopIteration") → E (.ref e) { s with heap := h', toks := tk }) :
    wpAny (model prog w) A (Builtin.«zip.__next__» ⟨[.ref z], []⟩) Q E s := by
  have D1 := draws_v (prog := prog) (w := w) b1 hh i1 a ai xs
  have D2 := draws_v (prog := prog) (w := w) b2 hh i2 b bi ys
  obtain ⟨hp, g, d, tk0, os⟩ := s
  show wpAny _ _ (field (.ref z) 2 >>= _) _ _ _
  refine wpAny_bind (wpAny_field hz rfl (x := .bool false) rfl ?_)
  show wpAny _ _ (field (.ref z) 3 >>= _) _ _ _
  refine wpAny_bind (wpAny_field hz rfl (x := .ref TI) rfl ?_)
  refine wpAny_bind (wpAny_seqItems hTI rfl ?_)
  show wpAny _ _ (Builtin.SmallTypes.ownedTupleIsFree (.ref z) >>= _) _ _ _
  refine wpAny_bind ?_
  unfold Builtin.SmallTypes.ownedTupleIsFree
  refine wpAny_bind (wpAny_field hz rfl (x := .none) rfl (wpAny_pure ?_))
  simp only [if_true]
  refine wpAny_bind (wpAny_rule ?_)
  refine wpAny_bind (wpAny_field hz rfl (x := .ref TO) rfl ?_)
  refine wpAny_bind (wpAny_setField_rec hz (by simp) fun g0 hz0 hs0 => ?_)
  replace hz0 : IsZip g0 z TI TO .ellipsis := hz0
  replace hs0 : Heap.SameBut z hp g0 := hs0
  refine wpAny_bind ?_
  simp only [List.zipIdx_cons, List.zipIdx_nil, List.forIn_cons, List.forIn_nil]
  refine wpAny_bind (wpAny_bind (wpAny_onRaise ?_))
  show wpAny _ _ (Builtin.SmallTypes.nextOf (.ref i1) >>= _) _ _ ⟨g0, g, d, tk0, os⟩
  cases hx : xs[i]? with
  | some x =>
    have hlt1 : i < xs.size := (Array.getElem?_eq_some_iff.mp hx).1
    have hy : ys[i]? = none := by rcases hend with q | q; rw [hx] at q; cases q; exact q
    refine wpAny_bind (D1.item i _ _ _ hlt1 (D1.over st1 hs0 S.zf1) fun x1 p1 tk1 hx1 sn1 hp1 => wpAny_pure ?_)
    replace hp1 : Heap.SameBut i1 g0 p1 := hp1
    have hU1 : IsTupOf2 p1 TO a1 a2 := hp1.extBut _ _ S.Ti1 (hs0.extBut _ _ S.TOz hTO)
    refine wpAny_bind (wpAny_seqItems (s := ⟨p1, g, d, tk1, os⟩) hU1 rfl ?_)
    refine wpAny_bind (updateSeq_IsTupOf2 (s := ⟨p1, g, d, tk1, os⟩) hU1 fun g1 hT1 hs1 => ?_)
    replace hT1 : IsTupOf2 g1 TO x1 a2 := hT1
    replace hs1 : Heap.SameBut TO p1 g1 := hs1
    refine wpAny_bind (wpAny_letGo (wpAny_pure ?_))
    refine wpAny_bind (wpAny_bind (wpAny_onRaise ?_))
    show wpAny _ _ (Builtin.SmallTypes.nextOf (.ref i2) >>= _) _ _ ⟨g1, g, d, tk1, os⟩
    have st2' := D2.over (D2.over (D2.over st2 hs0 S.zf2) hp1 S.sep1_2) hs1 S.Tf2
    refine wpAny_bind (nextOf_endV b2 (s := ⟨g1, g, d, tk1, os⟩) hh st2'.1 st2'.2 hy fun q e hq he => ?_)
    replace hq : Heap.ExtBut i2 g1 q := hq
    obtain ⟨oe, hoe, hce⟩ := he
    replace hoe : q.get? e = some oe := hoe
    have hzq : IsZip q z TI TO .ellipsis := hq _ _ S.zi2 (hs1.extBut _ _ S.TOz.symm (hp1.extBut _ _ S.zi1 hz0))
    have hez : e ≠ z := fun x => by subst x; rw [hzq] at hoe; cases hoe; simp at hce
    refine wpAny_setField_rec (s := ⟨q, g, d, tk1, os⟩) hzq (by simp) fun q' _ hq' => ?_
    replace hq' : Heap.SameBut z q q' := hq'
    exact hE q' tk1 e (fun c o cz cT c1 c2 x => hq'.extBut _ _ cz (hq _ _ c2 (hs1.extBut _ _ cT (hp1.extBut _ _ c1 (hs0.extBut _ _ cz x))))) ⟨oe, hq'.extBut _ _ hez hoe, hce⟩
  | none =>
    have st1' := D1.over st1 hs0 S.zf1
    refine wpAny_bind (nextOf_endV b1 (s := ⟨g0, g, d, tk0, os⟩) hh st1'.1 st1'.2 hx fun q e hq he => ?_)
    replace hq : Heap.ExtBut i1 g0 q := hq
    obtain ⟨oe, hoe, hce⟩ := he
    replace hoe : q.get? e = some oe := hoe
    have hzq : IsZip q z TI TO .ellipsis := hq _ _ S.zi1 hz0
    have hez : e ≠ z := fun x => by subst x; rw [hzq] at hoe; cases hoe; simp at hce
    refine wpAny_setField_rec (s := ⟨q, g, d, tk0, os⟩) hzq (by simp) fun q' _ hq' => ?_
    replace hq' : Heap.SameBut z q q' := hq'
    exact hE q' tk0 e (fun c o cz cT c1 c2 x => hq'.extBut _ _ cz (hq _ _ c1 (hs0.extBut _ _ cz x))) ⟨oe, hq'.extBut _ _ hez hoe, hce⟩
theorem next_zipV_end {b1 b2 : Bool} {z TI TO i1 i2 a b : Addr} {xs ys : Array Value} {i : Nat} {a1 a2 : Value} {Q : Option Value → Shared → Prop} (hh : A.handled = none) (S : ZipSep2 z TI TO i1 i2 [i1, a] [i2, b]) (ai : a ≠ i1) (bi : b ≠ i2)
    (hz : IsZip s.heap z TI TO .none) (hTI : IsTupOf2 s.heap TI (.ref i1) (.ref i2)) (hTO : IsTupOf2 s.heap TO a1 a2) (st1 : ItV b1 s.heap i1 a i ∧ SeqV b1 s.heap a xs) (st2 : ItV b2 s.heap i2 b i ∧ SeqV b2 s.heap b ys) (hend : xs[i]? = none ∨ ys[i]? = none)
    (hQ : ∀ h' tk, (∀ c o, c ≠ z → c ≠ TO → c ≠ i1 → c ≠ i2 → s.heap.get? c = some o → h'.get? c = some o) → Q none { s with heap := h', toks := tk }) : wpAny (model prog w) A (pyNext (.ref z)) Q E s := by
  have hT : s.TypeIs (.ref z) "zip" := ⟨_, hz, rfl⟩
  unfold pyNext
  refine wpAny_bind (wpAny_attempt (wpAny_callSpecial?_slot (name := Str.ofString "__next__") hT F.slot_zip_next
    (wpAny_call_entry F.slot_zip_next hT F.entry_zip_next (zipV_end hh S ai bi hz hTI hTO st1 st2 hend fun h' tk e hk he => ?_) (F.args_zip_next_1 _))))
  obtain ⟨o, ho, hc⟩ := he
  refine wpAny_bind (wpAny_isInstance (T := "StopIteration") (b := true) ⟨o, ho, hc⟩ isSubtype_stop ?_)
  exact wpAny_pure (hQ _ _ hk)
theorem apart_v {b : Bool} {h : Heap} {it a : Addr} {i : Nat} {xs : Array Value} (h1 : ItV b h it a i) (p : SeqV b h a xs) : a ≠ it := fun e => by
  subst e
  cases b
  · obtain ⟨o, e1, c1, d1⟩ := h1; obtain ⟨o', e2, c2, _⟩ := p; rw [e1] at e2; cases e2; rw [c1] at c2; exact absurd c2 (by decide)
  · obtain ⟨o, e1, c1, d1⟩ := h1; obtain ⟨o', e2, c2, _⟩ := p; rw [e1] at e2; cases e2; rw [c1] at c2; exact absurd c2 (by decide)
end
theorem turn_zipV {P : Program} {w : World} {K : PySem.W.Frag} {elts : List Expr} {kk : Nat} {tpos : Pos} {b1 b2 : Bool} {a b z TI TO i1 i2 : Addr} (S : ZipSep2 z TI TO i1 i2 [i1, a] [i2, b]) :
    Turn P w K (.Tuple elts kk tpos) (ItzV K b1 b2 a b) [z, TI, TO, i1, i2] z (fun i h => IsZip h z TI TO .none ∧ IsTupOf2 h TI (.ref i1) (.ref i2) ∧ (∃ x y, IsTupOf2 h TO x y) ∧ ItV b1 h i1 a i ∧ ItV b2 h i2 b i) where
  mem := by simp
  obj := fun i h st c hc => by
    obtain ⟨hz, hTI, ⟨x, y, hTO⟩, h1, h2⟩ := st
    have e' : c = z ∨ c = TI ∨ c = TO ∨ c = i1 ∨ c = i2 := by simpa using hc
    rcases e' with q | q | q | q | q
    · rw [q]; exact ⟨_, hz, fun v q => nomatch q⟩
    · rw [q]; exact ⟨_, hTI, fun v q => nomatch q⟩
    · rw [q]; exact ⟨_, hTO, fun v q => nomatch q⟩
    · rw [q]
      cases b1
      · obtain ⟨o1, e1, _, d1⟩ := h1; exact ⟨o1, e1, fun v q => by rw [d1] at q; cases q⟩
      · obtain ⟨o1, e1, _, d1⟩ := h1; exact ⟨o1, e1, fun v q => by rw [d1] at q; cases q⟩
    · rw [q]
      cases b2
      · obtain ⟨o1, e1, _, d1⟩ := h2; exact ⟨o1, e1, fun v q => by rw [d1] at q; cases q⟩
      · obtain ⟨o1, e1, _, d1⟩ := h2; exact ⟨o1, e1, fun v q => by rw [d1] at q; cases q⟩
  keep := fun i h h' st k => by
    obtain ⟨hz, hTI, ⟨x, y, hTO⟩, h1, h2⟩ := st
    refine ⟨k z (by simp) _ hz, k TI (by simp) _ hTI, ⟨x, y, k TO (by simp) _ hTO⟩, ?_, ?_⟩
    · cases b1
      · exact PySem.Heap.IsListIter.at h1 fun o q => k i1 (by simp) o q
      · exact PySem.Heap.IsTupleIter.at h1 fun o q => k i1 (by simp) o q
    · cases b2
      · exact PySem.Heap.IsListIter.at h2 fun o q => k i2 (by simp) o q
      · exact PySem.Heap.IsTupleIter.at h2 fun o q => k i2 (by simp) o q
  item := by
    intro X hP hw hK hc i pins s σ H E I hf st hg
    subst hP hw hK
    obtain ⟨hz, hTI, ⟨x0, y0, hTO⟩, h1, h2⟩ := st
    obtain ⟨xs, ys, x, y, hqx, hqy, hx, hy⟩ := hg
    obtain ⟨its, rv, p⟩ := hqx.at' I
    obtain ⟨its2, rv2, p2⟩ := hqy.at' I
    obtain ⟨u, hu, ru⟩ := rv.get hx
    obtain ⟨u2, hu2, ru2⟩ := rv2.get hy
    have hzl : z < s.heap.objs.size := Heap.lt_size hz
    have l1 : i < its.toArray.size := by have := get_lt hu; simpa using this
    have l2 : i < its2.toArray.size := by have := get_lt hu2; simpa using this
    have ai := apart_v h1 p
    have bi := apart_v h2 p2
    refine wpAny_pyNext_zipD2_item S (draws_v b1 (A := X.A.in1) (I.ok.hd hc) i1 a ai its.toArray) (draws_v b2 (A := X.A.in1) (I.ok.hd hc) i2 b bi its2.toArray) hz hTI hTO ⟨h1, p⟩ ⟨h2, p2⟩ l1 l2 fun w1 w2 h' tk e1 e2 z' TO' h1' h2' hT hsz hk => ?_
    have f1 : w1 = u := by
      have : its.toArray[i]? = some u := by simpa using hu
      rw [e1] at this
      exact Option.some.inj this
    have f2 : w2 = u2 := by
      have : its2.toArray[i]? = some u2 := by simpa using hu2
      rw [e2] at this
      exact Option.some.inj this
    subst f1 f2
    refine ⟨_, rfl, wpAny_letOwnedTupleGo_zip (s := { s with heap := h', toks := tk }) z' fun h'' z'' sb => ?_⟩
    have hT2 : h''.get? s.heap.objs.size = some { cls := .type "tuple", data := .seq #[w1, w2] } := (sb.2 _ (Nat.ne_of_gt hzl)).trans hT
    have new : ObjOk X.prog X.w (upd H s.heap.objs.size (.tup [x, y])) h'' s.heap.objs.size (.tup [x, y]) :=
      ⟨by show 2 ≤ sizeLine; decide, [w1, w2], .cons ru (.cons ru2 .nil), ⟨_, hT2, rfl, _, rfl⟩⟩
    have I1 : Inv X pins σ (upd H s.heap.objs.size (.tup [x, y])) { s with heap := h'', toks := tk } :=
      I.turnedNew (ch := [z, TI, TO, i1, i2]) (fun c o hb q => (sb.2 c (fun q' => hb (by simp [q']))).trans (hk c o (fun q' => hb (by simp [q'])) (fun q' => hb (by simp [q'])) (fun q' => hb (by simp [q'])) (fun q' => hb (by simp [q'])) q)) hf (Nat.le_refl _) new
    refine ⟨.ref s.heap.objs.size, _, I1, rfl, ⟨_, x, y, rfl, I.hok.fresh (Nat.le_refl _), rfl, fun l hl => by rw [SqV.inj I hl hqx]; exact hx, fun l hl => by rw [SqV.inj I hl hqy]; exact hy⟩, ⟨z'', ?_, ⟨w1, w2, ?_⟩, ?_, ?_⟩, fun c hcm => ?_⟩
    · exact (sb.2 _ S.TIz).trans (hk _ _ S.TIz S.TITO S.TIi1 S.TIi2 hTI)
    · exact (sb.2 _ S.TOz).trans TO'
    · cases b1
      · exact PySem.Heap.IsListIter.at h1'.1 fun o q => (sb.2 _ S.zi1.symm).trans q
      · exact PySem.Heap.IsTupleIter.at h1'.1 fun o q => (sb.2 _ S.zi1.symm).trans q
    · cases b2
      · exact PySem.Heap.IsListIter.at h2'.1 fun o q => (sb.2 _ S.zi2.symm).trans q
      · exact PySem.Heap.IsTupleIter.at h2'.1 fun o q => (sb.2 _ S.zi2.symm).trans q
    · have hlt : c < s.heap.objs.size := by
        have e' : c = z ∨ c = TI ∨ c = TO ∨ c = i1 ∨ c = i2 := by simpa using hcm
        rcases e' with q | q | q | q | q
        · rw [q]; exact hzl
        · rw [q]; exact Heap.lt_size hTI
        · rw [q]; exact Heap.lt_size hTO
        · rw [q]; obtain ⟨_, e1⟩ := h1.there; exact Heap.lt_size e1
        · rw [q]; obtain ⟨_, e2⟩ := h2.there; exact Heap.lt_size e2
      rw [upd_ne (Nat.ne_of_lt hlt)]
      exact (hf c hcm).1
  done := by
    intro X hP hw hK hc i pins s σ H E I hf st hg
    subst hP hw hK
    obtain ⟨hz, hTI, ⟨x0, y0, hTO⟩, h1, h2⟩ := st
    obtain ⟨xs, ys, hqx, hqy, hend⟩ := hg
    obtain ⟨its, rv, p⟩ := hqx.at' I
    obtain ⟨its2, rv2, p2⟩ := hqy.at' I
    have l1 := rv.length
    have l2 := rv2.length
    have he : its.toArray[i]? = none ∨ its2.toArray[i]? = none := by
      rcases hend with q | q
      · exact .inl (by simp; omega)
      · exact .inr (by simp; omega)
    exact next_zipV_end (I.ok.hd hc) S (apart_v h1 p) (apart_v h2 p2) hz hTI hTO ⟨h1, p⟩ ⟨h2, p2⟩ he fun h' tk hk => ⟨rfl, I.turnedL (t' := tk) (ch := [z, TI, TO, i1, i2]) (fun c o hb q =>
      hk c o (fun q' => hb (by simp [q'])) (fun q' => hb (by simp [q'])) (fun q' => hb (by simp [q'])) (fun q' => hb (by simp [q'])) q) hf⟩
  self := fun A i s Q E st h => wpAny_pyIter_zip st.1 h
def iZipV (K : PySem.W.Frag) (ta : TA) : TI := fun σ H R => ta σ H fun vs H1 => ∃ b1 b2 a b xs ys, vs = [.ref a, .ref b] ∧ SqV b1 K H1 a xs ∧ SqV b2 K H1 b ys ∧ R (ItzV K b1 b2 a b) H1
open PyProof.Rows in
theorem pi_zipV {X : Cx} {e e2 : Expr} {ta : TA} {p pos tpos : Pos} {elts : List Expr} {kk : Nat} (hg : Gl X "zip") (hm : X.mg "zip" = none) (ha : PA X [e, e2] ta)
    (hs : starEach [e, e2] X.env = (false, eval e X.env) :: starEach [e2] X.env := by rfl) (hpl : (backTo pos (starEach [e2] X.env)).any (·.1) = false := by rfl) :
    PI X (.Tuple elts kk tpos) (.Call (.Name "zip" p) [e, e2] [] pos) (iZipV X.K ta) := by
  refine ⟨fun pins s σ H R I h => ?_⟩
  refine Call_ (ld_blt I hg hm PyProof.Rows.boot_zip (PyProof.Rows.callWith_type1 (thn (ha.run pos pins s σ H _ I h) fun us s1 ⟨vs, H1, I1, r1, q1⟩ => ?_) hs hpl))
  obtain ⟨b1, b2, a, b, xs, ys, ex, hqx, hqy, q⟩ := q1
  subst ex
  cases r1 with
  | cons r rr =>
    cases rr with
    | cons r' rr =>
      cases rr
      cases r
      cases r'
      obtain ⟨its, rv, p1⟩ := hqx.at' I1
      obtain ⟨its2, rv2, p2⟩ := hqy.at' I1
      obtain ⟨o1, ho1⟩ := p1.there
      obtain ⟨o2, ho2⟩ := p2.there
      have fresh5 : ∀ c, c ∈ [s1.heap.objs.size + 4, s1.heap.objs.size + 2, s1.heap.objs.size + 3, s1.heap.objs.size, s1.heap.objs.size + 1] → FpOk X pins H1 c := fun c hcm => by
        have e' : c = s1.heap.objs.size + 4 ∨ c = s1.heap.objs.size + 2 ∨ c = s1.heap.objs.size + 3 ∨ c = s1.heap.objs.size ∨ c = s1.heap.objs.size + 1 := by simpa using hcm
        have hle : s1.heap.objs.size ≤ c := by
          rcases e' with z | z | z | z | z
          · rw [z]; exact Nat.le_add_right _ _
          · rw [z]; exact Nat.le_add_right _ _
          · rw [z]; exact Nat.le_add_right _ _
          · rw [z]; exact Nat.le_refl _
          · rw [z]; exact Nat.le_add_right _ _
        exact I1.fpOk hle (I1.hok.fresh hle)
      refine zip_at (X := X) (pins := pins) (σ := σ) (H := H1) p1 p2 fun h' ok' hsz hk => wpAny_pyIter_zip ok'.1 ?_
      have I2 : Inv X pins σ H1 { s1 with heap := h' } := I1.kept (t' := s1.toks) hk
      exact ⟨s1.heap.objs.size + 4, [s1.heap.objs.size + 4, s1.heap.objs.size + 2, s1.heap.objs.size + 3, s1.heap.objs.size, s1.heap.objs.size + 1], _, _, H1, rfl, I2,
        turn_zipV (zip_sep2 (N := s1.heap.objs.size) (fp1 := [a]) (fp2 := [b]) (by simpa using Heap.lt_size ho1) (by simpa using Heap.lt_size ho2)), ⟨ok'.1, ok'.2.1, ok'.2.2.1, ok'.2.2.2.1.1, ok'.2.2.2.2.1⟩, fresh5, q⟩
theorem goes_zipV {K : PySem.W.Frag} {G : Hp} {b1 b2 : Bool} {a b : Addr} {vs ws : List V} {xs ys : List D} (r1 : ∀ G2 H2, Ext G G2 → Same G2 H2 → SqV b1 K H2 a vs) (h1 : RpAll G vs xs) (r2 : ∀ G2 H2, Ext G G2 → Same G2 H2 → SqV b2 K H2 b ws) (h2 : RpAll G ws ys) : Goes (ItzV K b1 b2 a b) (zipD xs ys) G := fun G2 H2 x s k => by
  have q1 := r1 G2 H2 x s
  have q2 := r2 G2 H2 x s
  refine ⟨fun d hd => ?_, fun hn => ⟨vs, ws, q1, q2, by rw [h1.length, h2.length]; exact zip_none hn⟩⟩
  obtain ⟨d1, d2, e1, e2, rfl⟩ := zip_get hd
  obtain ⟨v, hv, rp⟩ := h1.get e1
  obtain ⟨w, hw, rp2⟩ := h2.get e2
  refine ⟨⟨vs, ws, v, w, q1, q2, hv, hw⟩, fun y H3 hy => ?_⟩
  obtain ⟨T, y1, y2, rfl, hT, rfl, f1, f2⟩ := hy
  have z1 := f1 vs q1
  have z2 := f2 ws q2
  rw [hv] at z1
  rw [hw] at z2
  cases z1
  cases z2
  exact .tup hT (.cons (rp.ext x) (.cons (rp2.ext x) .nil))
end G6

namespace G6
open PySem PySem.Spec L2
/-- the classes that may be raised -/
def mxOf (c : SC) (mg : Str → Option Value) : Str → Option Value := fun x => if c.ex x = true then mg x else none
/-- the context serves the text -/
structure Good (X : Cx) (c : SC) (W : Wx) (k : Nat) : Prop where
  hN : X.N = c.N
  nd : X.N.Nodup
  sc : X.env.scope = c.sc
  calm : X.calm = true
  fnB : ∀ x, c.fnB x = true → X.fn x = true
  bl : ∀ x, c.bl x = true → X.mg x = none
  room : Room k X.A
  defs : ∀ f io, c.io f = some io → ∃ a fd ps, X.mg f = some (.ref a) ∧ PySem.W.keepIn X.K (.ref a) = true ∧ Binds X.K fd ps [] ∧ FnOk X.prog X.w X.K X.mg X.base (CX X.prog X.w) k a fd ps (spF (mxOf c X.mg) io (c.fn f))
  exs : ∀ x, c.ex x = true → ∃ C, X.mg x = some (.ref C) ∧ PySem.W.excIn X.K C He.veBase "ValueError.__new__" = true ∧ PySem.W.keepIn X.K (.ref C) = true ∧ PySem.W.subIn X.K (.ref C) (.type "BaseException") = some true ∧ PySem.W.typeIn X.K (.ref C) = some (.type "type")
  exm : ∀ x y C D, c.ex x = true → c.ex y = true → X.mg x = some C → X.mg y = some D → PySem.W.exmOne X.K C D = some (decide (x ∈ c.sub y))
  tk : Takes X (wf (mxOf c X.mg) W)
  po : c.loops = true → PassesOwn (model X.prog X.w) X.A X.env X.xe ∧ X.stack = X.env :: X.outer ∧ X.env.frame = some X.env.locals
section
variable {X : Cx} {c : SC} {W : Wx} {k : Nat}
theorem find_ix {N : List Str} {x : Str} {i : Nat} (h : N.findIdx? (· == x) = some i) : N[i]? = some x := by
  rw [List.findIdx?_eq_some_iff_getElem] at h
  obtain ⟨hl, h1, _⟩ := h
  rw [List.getElem?_eq_getElem hl]
  simp only [beq_iff_eq] at h1
  rw [h1]
theorem vis_of (g : Good X c W k) {x : Str} (h : isVis c x = true) : Vis X.env.scope x := by
  unfold isVis kindIn at h
  rw [← g.sc] at h
  split at h
  · rename_i e; exact .inl e
  · rename_i e; exact .inr (.inl e)
  · rename_i e; exact .inr (.inr e)
  · cases h
theorem loc_of (g : Good X c W k) {x : Str} (h : isLoc c x = true) : Loc X.env.scope x ∧ (X.fn x = true ∨ X.env.scope.names.lookup x = some .local) := by
  unfold isLoc kindIn at h
  rw [← g.sc] at h
  split at h
  · rename_i e; exact ⟨.inl e, .inr e⟩
  · rename_i e; exact ⟨.inr e, .inl (g.fnB x h)⟩
  · cases h
theorem glo_of (g : Good X c W k) {x : Str} (h : isGlo c x = true) : Gl X x := by
  unfold isGlo kindIn at h
  rw [← g.sc] at h
  split at h
  · rename_i e; exact e
  · cases h
theorem plain_of {x : Str} (h : plainName x = true) : (x == ("__debug__" : Str)) = false ∧ (x == ("__classdict__" : Str)) = false ∧ x ≠ ("__name__" : Str) := by
  unfold plainName at h
  simp only [Bool.and_eq_true, Bool.not_eq_true'] at h
  exact ⟨h.1.1, h.1.2, by simpa using h.2⟩
theorem slot_of (g : Good X c W k) {x : Str} {i : Nat} {pos : Pos} (h : slotOf c x = some i) : PE X (.Name x pos) (tVar i) := by
  unfold slotOf at h
  split at h
  · rename_i hc
    simp only [Bool.and_eq_true] at hc
    obtain ⟨p1, p2, p3⟩ := plain_of hc.2
    exact pe_var (by rw [g.hN]; exact find_ix h) (vis_of g hc.1) p1 p2
  · cases h
theorem store_of (g : Good X c W k) {x : Str} {i : Nat} (h : storeOf c x = some i) : X.N[i]? = some x ∧ Loc X.env.scope x ∧ (X.fn x = true ∨ X.env.scope.names.lookup x = some .local) ∧ i ∉ c.ios := by
  unfold storeOf at h
  split at h
  · rename_i hc
    simp only [Bool.and_eq_true] at hc
    obtain ⟨l1, l2⟩ := loc_of g hc.1
    cases q : c.N.findIdx? (· == x) with
    | none => rw [q] at h; cases h
    | some j =>
      rw [q] at h
      simp only [Option.bind_some] at h
      split at h
      · cases h
      · rename_i hm
        cases h
        exact ⟨by rw [g.hN]; exact find_ix q, l1, l2, by simpa using hm⟩
  · cases h
theorem blt_of (g : Good X c W k) {x : Str} (h : isBlt c x = true) : Gl X x ∧ X.mg x = none ∧ (x == ("__debug__" : Str)) = false ∧ x ≠ ("__name__" : Str) := by
  unfold isBlt at h
  simp only [Bool.and_eq_true] at h
  obtain ⟨p1, p2, p3⟩ := plain_of h.2
  exact ⟨glo_of g h.1.1, g.bl x h.1.2, p1, p3⟩
theorem star_of {e : Expr} {es : List Expr} (h : notStar e = true) (env : Env) : starEach (e :: es) env = (false, eval e env) :: starEach es env := by
  cases e <;> first | rfl | cases h
theorem mark_of {op : CmpOp} {b : Expr} (h : notSet b = true) : behindInMarks op b = false := by
  cases b <;> first | rfl | cases h
theorem plainIx_of {b : Expr} (h : plainSub b = true) : PlainIx b := by
  intro o i
  cases b <;> first | rfl | cases h
/-- readings imply each other -/
theorem PE.of {e : Expr} {m : G6.X} {t : TE} (h : PE X e t) (i : ∀ σ H Q, tX W m σ H Q → t σ H Q) : PE X e (tX W m) := PE.imp h i
end
end G6

namespace G6
open PySem PySem.Spec L2
abbrev SndE (r : RE) : Prop := ∀ (c : SC) (e : Expr) (m : G6.X), r c e = some m → ∀ (X : Cx) (W : Wx) (k : Nat), Good X c W k → PE X e (tX W m)
section
variable {r : RE} {X : Cx} {c : SC} {W : Wx} {k : Nat}
theorem snd_P (hr : SndE r) {e : Expr} {p : Pk} (h : compP r c e = some p) (g : Good X c W k) : PE X e (tPk W p) := by
  unfold compP at h
  split at h
  · rw [Option.map_eq_some_iff] at h
    obtain ⟨i, h1, rfl⟩ := h
    exact PE.imp (slot_of g h1) pk_nm
  · rw [Option.map_eq_some_iff] at h
    obtain ⟨m, h1, rfl⟩ := h
    exact PE.imp (hr c _ m h1 X W k g) pk_ex
theorem mapO_cons {α β : Type} {f : α → Option β} {a : α} {as : List α} {bs : List β} (h : mapO f (a :: as) = some bs) : ∃ b bs', f a = some b ∧ mapO f as = some bs' ∧ bs = b :: bs' := by
  simp only [mapO, Option.bind_eq_some_iff] at h
  obtain ⟨b, h1, bs', h2, h3⟩ := h
  cases h3
  exact ⟨b, bs', h1, h2, rfl⟩
theorem ite_some {α : Type} {b : Bool} {x : Option α} {y : α} (h : (if b = true then x else none) = some y) : b = true ∧ x = some y := by
  split at h
  · rename_i e; exact ⟨e, h⟩
  · cases h
theorem snd_Ps (hr : SndE r) (g : Good X c W k) : ∀ {es : List Expr} {ps : List Pk}, compPs r c es = some ps → PA X es (tPks W ps)
  | [], ps, h => by
    cases h
    exact PA.imp pa_nil pks_nil
  | e :: es, ps, h => by
    obtain ⟨p, ps', h1, h2, rfl⟩ := mapO_cons h
    obtain ⟨hs, h1⟩ := ite_some h1
    exact PA.imp (pa_cons (snd_P hr h1 g) (snd_Ps hr g h2) (star_of hs _)) pks_cons
theorem snd_Xs (hr : SndE r) (g : Good X c W k) : ∀ {es : List Expr} {ms : List G6.X}, compXs r c es = some ms → PA X es (tXs W ms)
  | [], ps, h => by
    cases h
    exact PA.imp pa_nil xs_nil
  | e :: es, ps, h => by
    obtain ⟨p, ps', h1, h2, rfl⟩ := mapO_cons h
    obtain ⟨hs, h1⟩ := ite_some h1
    exact PA.imp (pa_cons (hr c e p h1 X W k g) (snd_Xs hr g h2) (star_of hs _)) xs_cons
theorem snd_Fs (hr : SndE r) (g : Good X c W k) : ∀ {es : List Expr} {ms : List G6.X}, compXs r c es = some ms → PA X es (tFs W ms)
  | [], ps, h => by
    cases h
    exact PA.imp pa_nil fs_nil
  | e :: es, ps, h => by
    obtain ⟨p, ps', h1, h2, rfl⟩ := mapO_cons h
    obtain ⟨hs, h1⟩ := ite_some h1
    exact PA.imp (pa_cons (hr c e p h1 X W k g) (snd_Fs hr g h2) (star_of hs _)) fs_cons
theorem compXs_star : ∀ {es : List Expr} {ms : List G6.X}, compXs r c es = some ms → ∀ e ∈ es, notStar e = true
  | [], _, _, e, he => by cases he
  | a :: es, ms, h, e, he => by
    obtain ⟨p, ps', h1, h2, rfl⟩ := mapO_cons h
    rcases List.mem_cons.mp he with rfl | he
    · exact (ite_some h1).1
    · exact compXs_star h2 e he
theorem compPs_star : ∀ {es : List Expr} {ms : List Pk}, compPs r c es = some ms → ∀ e ∈ es, notStar e = true
  | [], _, _, e, he => by cases he
  | a :: es, ms, h, e, he => by
    obtain ⟨p, ps', h1, h2, rfl⟩ := mapO_cons h
    rcases List.mem_cons.mp he with rfl | he
    · exact (ite_some h1).1
    · exact compPs_star h2 e he
theorem mapO_len {α β : Type} {f : α → Option β} : ∀ {as : List α} {bs : List β}, mapO f as = some bs → bs.length = as.length
  | [], _, h => by cases h; rfl
  | a :: as, bs, h => by
    obtain ⟨b, bs', h1, h2, rfl⟩ := mapO_cons h
    rw [List.length_cons, List.length_cons, mapO_len h2]
theorem stars_any : ∀ {es : List Expr} {pos : Pos} {env : Env}, (∀ e ∈ es, notStar e = true) → (backTo pos (starEach es env)).any (·.1) = false
  | [], _, _, _ => rfl
  | e :: es, pos, env, h => by
    rw [star_of (h e List.mem_cons_self) env]
    show (false || (backTo pos (starEach es env)).any (·.1)) = false
    rw [stars_any (fun x hx => h x (List.mem_cons_of_mem _ hx)), Bool.or_false]
theorem stars_all : ∀ {es : List Expr} {pos : Pos} {env : Env}, (∀ e ∈ es, notStar e = true) → (backTo pos (starEach es env)).all (fun x => !x.1) = true
  | [], _, _, _ => rfl
  | e :: es, pos, env, h => by
    rw [star_of (h e List.mem_cons_self) env]
    show (true && (backTo pos (starEach es env)).all (fun x => !x.1)) = true
    rw [stars_all (fun x hx => h x (List.mem_cons_of_mem _ hx)), Bool.and_true]
/-! operators -/
theorem opR_of (hu : X.A.units + 64 < cLine) {op : Operator} {f : Pr} (h : opPr op = some f) : OpR X (binaryOp op) (r2 f) := by
  cases op <;> first | (cases h; done) | skip
  all_goals (simp only [opPr, Option.some.injEq] at h; subst h)
  · exact op_pAdd
  · exact op_pSub
  · exact op_pMul
  · exact op_pMod
  · exact op_pDiv
theorem cmR_of (hu : X.A.units + 64 < cLine) {op : CmpOp} {f : Pr} (h : cmPr op = some f) : OpR X (compareOp op) (r2 f) := by
  cases op <;> (simp only [cmPr, Option.some.injEq] at h; subst h)
  · exact cmp_pEq hu
  · exact cmp_pNe hu
  · exact cmp_pLt hu
  · exact cmp_pLe hu
  · exact cmp_pGt hu
  · exact cmp_pGe hu
  · exact cmp_pIs
  · exact cmp_pIsn
  · exact cmp_pIn hu
  · exact cmp_pNin hu
theorem last_of {op op2 : CmpOp} {b b2 : Expr} (h : notSet b2 = true) : lastMarks [op, op2] [b, b2] = false := mark_of h
theorem snd_cmp (hr : SndE r) (g : Good X c W k) {a : Expr} {ops : List CmpOp} {bs : List Expr} {m : G6.X} {pos : Pos} (h : compCmp r c a ops bs = some m) : PE X (.Compare a ops bs pos) (tX W m) ∧ PT X (.Compare a ops bs pos) (tTe W (tCmp m)) := by
  unfold compCmp at h
  split at h
  · rename_i op b
    obtain ⟨hs, h⟩ := ite_some h
    simp only [Option.bind_eq_some_iff, Option.map_eq_some_iff] at h
    obtain ⟨f, hf, p, hp, q, hq, rfl⟩ := h
    have o := cmR_of g.room.units hf
    exact ⟨PE.imp (pe_cmpR o (snd_P hr hp g) (snd_P hr hq g) (mark_of hs)) prim2_of, PT.imp (pt_cmpR o (snd_P hr hp g) (snd_P hr hq g) (mark_of hs)) fun σ H Q h => prim2_of σ H _ (l_cmp σ H Q h)⟩
  · rename_i op op2 b b2
    obtain ⟨hs, h⟩ := ite_some h
    simp only [Bool.and_eq_true] at hs
    simp only [Option.bind_eq_some_iff, Option.map_eq_some_iff] at h
    obtain ⟨f, hf, f2, hf2, p, hp, q, hq, q2, hq2, rfl⟩ := h
    have o := cmR_of g.room.units hf
    have o2 := cmR_of g.room.units hf2
    exact ⟨PE.imp (pe_chain o o2 (snd_P hr hp g) (snd_P hr hq g) (snd_P hr hq2 g) (last_of hs.2)) l_cmp2, PT.imp (pt_chain o o2 (snd_P hr hp g) (snd_P hr hq g) (snd_P hr hq2 g) (last_of hs.2)) fun σ H Q h => l_cmp2 σ H _ (l_cmp σ H Q h)⟩
  · cases h
/-! tests -/
theorem snd_T (hr : SndE r) (g : Good X c W k) : ∀ (n : Nat) (e : Expr) (t : G6.T), compT r c n e = some t → PT X e (tTe W t)
  | 0, _, _, h => by cases h
  | n + 1, e, t, h => by
    simp only [compT] at h
    split at h
    · rename_i x pos
      rw [Option.map_eq_some_iff] at h
      obtain ⟨u, h1, rfl⟩ := h
      exact PT.imp (pt_not (snd_T hr g n x u h1)) l_not
    · rename_i op es pos
      rw [Option.bind_eq_some_iff] at h
      obtain ⟨ts, h1, h2⟩ := h
      have all : ∀ (es : List Expr) (ts : List G6.T) (t : G6.T), mapO (compT r c n) es = some ts → tAll ts = some t → PW X (.BoolOp .And es pos) (tTe W t) := by
        intro es
        induction es with
        | nil => intro ts t h1 h2; cases h1; cases h2
        | cons a es ih =>
          intro ts t h1 h2
          obtain ⟨u, us, h3, h4, rfl⟩ := mapO_cons h1
          cases es with
          | nil =>
            cases h4
            cases h2
            exact pw_and1 (snd_T hr g n a _ h3)
          | cons b es =>
            obtain ⟨u2, us2, h5, h6, rfl⟩ := mapO_cons h4
            simp only [tAll, Option.map_eq_some_iff] at h2
            obtain ⟨v, h7, rfl⟩ := h2
            exact PW.imp (pw_and (snd_T hr g n a _ h3) (ih _ v h4 h7)) l_and
      have any : ∀ (es : List Expr) (ts : List G6.T) (t : G6.T), mapO (compT r c n) es = some ts → tAny ts = some t → PW X (.BoolOp .Or es pos) (tTe W t) := by
        intro es
        induction es with
        | nil => intro ts t h1 h2; cases h1; cases h2
        | cons a es ih =>
          intro ts t h1 h2
          obtain ⟨u, us, h3, h4, rfl⟩ := mapO_cons h1
          cases es with
          | nil =>
            cases h4
            cases h2
            exact pw_or1 (snd_T hr g n a _ h3)
          | cons b es =>
            obtain ⟨u2, us2, h5, h6, rfl⟩ := mapO_cons h4
            simp only [tAny, Option.map_eq_some_iff] at h2
            obtain ⟨v, h7, rfl⟩ := h2
            exact PW.imp (pw_or (snd_T hr g n a _ h3) (ih _ v h4 h7)) l_or
      cases op with
      | And => exact (all es ts t h1 h2).pt
      | Or => exact (any es ts t h1 h2).pt
    · cases h
    · rw [Option.map_eq_some_iff] at h
      obtain ⟨m, h1, rfl⟩ := h
      exact (snd_cmp hr g h1).2
    · rename_i n1 n2 n3 n4
      rw [Option.map_eq_some_iff] at h
      obtain ⟨p, h1, rfl⟩ := h
      refine PT.imp (pt_truth (snd_P hr h1 g) ?_) l_val
      intro whole
      cases e with
      | UnaryOp op x pos =>
        cases op with
        | Not => exact (n1 x pos rfl).elim
        | _ => rfl
      | BoolOp op es pos => exact (n2 op es pos rfl).elim
      | IfExp a b d pos => exact (n3 a b d pos rfl).elim
      | Compare a ops bs pos => exact (n4 a ops bs pos rfl).elim
      | _ => rfl
end
end G6

namespace G6
open PySem PySem.Spec L2
section
variable {r : RE} {X : Cx} {c : SC} {W : Wx} {k : Nat}
/-! targets -/
theorem assign_each : ∀ {es : List Expr} {env : Env}, (∀ e ∈ es, notStar e = true) → (assignEach es env).map (·.2) = es.map (fun e => assign e env) ∧ (assignEach es env).length = es.length ∧ (assignEach es env).findIdx? (·.1) = none
  | [], _, _ => ⟨rfl, rfl, rfl⟩
  | e :: es, env, h => by
    obtain ⟨h1, h2, h3⟩ := assign_each (es := es) (env := env) fun x hx => h x (List.mem_cons_of_mem _ hx)
    have e0 : assignEach (e :: es) env = (false, assign e env) :: assignEach es env := by
      have := h e List.mem_cons_self
      cases e <;> first | rfl | cases this
    rw [e0]
    refine ⟨by simp [h1], by simp [h2], ?_⟩
    rw [List.findIdx?_cons, h3]
    rfl
mutual
theorem snd_Tg (g : Good X c W k) : ∀ (n : Nat) (e : Expr) (t : Tg), compTg c n e = some t → PG X e (gTg X.K t) ∧ (∀ i ∈ t.slots, i ∉ c.ios) ∧ notStar e = true
  | 0, _, _, h => by simp [compTg] at h
  | n + 1, e, t, h => by
    simp only [compTg] at h
    split at h
    · rename_i x pos
      rw [Option.map_eq_some_iff] at h
      obtain ⟨i, h1, rfl⟩ := h
      obtain ⟨s1, s2, s3, s4⟩ := store_of g h1
      refine ⟨pg_name g.nd s1 s2 s3, fun j hj => ?_, rfl⟩
      simp only [Tg.slots, List.mem_singleton] at hj
      rw [hj]
      exact s4
    · rename_i es a b
      rw [Option.map_eq_some_iff] at h
      obtain ⟨ts, h1, rfl⟩ := h
      obtain ⟨s1, s2, s3, s4⟩ := snd_Tgs g n es ts h1
      obtain ⟨a1, a2, a3⟩ := assign_each (env := X.env) s3
      refine ⟨pg_tup g.calm s1 (by rw [a2, s4]) a3, by simpa [Tg.slots] using s2, rfl⟩
    · cases h
theorem snd_Tgs (g : Good X c W k) : ∀ (n : Nat) (es : List Expr) (ts : List Tg), compTgs c n es = some ts → PGs X es (gTgs X.K ts) ∧ (∀ i ∈ slotsAll ts, i ∉ c.ios) ∧ (∀ e ∈ es, notStar e = true) ∧ es.length = ts.length
  | n, [], ts, h => by
    simp only [compTgs, Option.some.injEq] at h
    subst h
    exact ⟨pgs_nil, by simp [slotsAll], by simp, rfl⟩
  | 0, e :: es, ts, h => by simp [compTgs] at h
  | n + 1, e :: es, ts, h => by
    simp only [compTgs, Option.bind_eq_some_iff] at h
    obtain ⟨t, h1, us, h2, h3⟩ := h
    cases h3
    obtain ⟨s1, s2, s3⟩ := snd_Tg g n e t h1
    obtain ⟨u1, u2, u3, u4⟩ := snd_Tgs g n es us h2
    refine ⟨pgs_cons s1 u1 ?_, fun i hi => ?_, fun x hx => ?_, by simp [u4]⟩
    · cases e <;> first | rfl | cases s3
    · simp only [slotsAll, List.mem_append] at hi
      rcases hi with hi | hi
      · exact s2 i hi
      · exact u2 i hi
    · rcases List.mem_cons.mp hx with rfl | hx
      · exact s3
      · exact u3 x hx
end
/-! what is walked -/
theorem i_rng1 {a : Pk} (σ : L2.St) (H : Hp) (R : L2.It → Hp → Prop) (h : tIt W (.rng1 a) σ H R) : iRng1 (tPks W [a]) σ H R := by
  obtain ⟨g, env, G, er, h⟩ := h
  refine ⟨g, env, G, er, ?_⟩
  unfold It.ev at h
  refine h.split.mono fun ts e G' H' x er' h vs hvs => ?_
  cases q : tgets e ts with
  | none => simp only [q] at h; exact h.elim
  | some ds =>
    have o := op1s_of er' hvs q
    simp only [q] at h
    split at h
    · rename_i n hd
      cases hd
      split at h
      · rename_i hs
        simp only [small62, Bool.and_eq_true, decide_eq_true_eq] at hs
        obtain ⟨v, rfl, o1⟩ := op1s_one o
        refine ⟨n, by rw [op1_int o1], hs.1, hs.2, ?_⟩
        have := h G' H' (.refl G') er' (Itr 0 (n - 0).toNat) goes_rng
        rw [show n - 0 = n by omega] at this
        exact this
      · exact h.elim
    · exact h.elim
theorem i_rng2 {a b : Pk} (σ : L2.St) (H : Hp) (R : L2.It → Hp → Prop) (h : tIt W (.rng2 a b) σ H R) : iRng2 (tPks W [a, b]) σ H R := by
  obtain ⟨g, env, G, er, h⟩ := h
  refine ⟨g, env, G, er, ?_⟩
  unfold It.ev at h
  refine h.split.mono fun ts e G' H' x er' h vs hvs => ?_
  cases q : tgets e ts with
  | none => simp only [q] at h; exact h.elim
  | some ds =>
    have o := op1s_of er' hvs q
    simp only [q] at h
    split at h
    · rename_i m n hd
      cases hd
      split at h
      · rename_i hs
        simp only [small62, Bool.and_eq_true, decide_eq_true_eq] at hs
        obtain ⟨v, w, rfl, o1, o2⟩ := op1s_two o
        exact ⟨m, n, by rw [op1_int o1, op1_int o2], ⟨hs.1.1, hs.1.2, hs.2.1, hs.2.2⟩, h G' H' (.refl G') er' _ goes_rng⟩
      · exact h.elim
    · exact h.elim
theorem i_enum {m : G6.X} {K : PySem.W.Frag} (σ : L2.St) (H : Hp) (R : L2.It → Hp → Prop) (h : tIt W (.enum m) σ H R) : iEnumA K (tXs W [m]) σ H R := by
  obtain ⟨g, env, G, er, h⟩ := h
  refine ⟨g, env, G, er, ?_⟩
  unfold It.ev at h
  show After W g G σ ((m env).bind fun r e1 => (Re.ok [] e1).bind fun ds e2 => .ok (r.1 :: ds) e2) _
  have h2 := h.split
  cases q : m env with
  | bad => rw [q] at h2; exact h2
  | exc c e => rw [q] at h2; exact h2
  | ok r e =>
    rw [q] at h2
    intro G' H' x er' vs hvs
    have h3 := h2 G' H' x er'
    dsimp only at h3
    split at h3
    · rename_i xs hr
      rw [hr] at hvs
      cases hvs with
      | cons h1 h2 =>
        cases h2
        cases h1 with
        | @lst a ws _ ra ha => exact ⟨a, ws, rfl, .inl ⟨sqL (rd_same er'.gH ra), h3 G' H' (.refl G') er' _ (goes_enumL ra ha)⟩⟩
    · rename_i xs hr
      rw [hr] at hvs
      cases hvs with
      | cons h1 h2 =>
        cases h2
        cases h1 with
        | @tup a ws _ ra ha => exact ⟨a, ws, rfl, .inr ⟨sqT (er'.gH _ _ ra), h3 G' H' (.refl G') er' _ (goes_enumT ra ha)⟩⟩
    · exact h3.elim
theorem sqV_ext {K : PySem.W.Frag} {G : Hp} {v : V} {d : D} {xs : List D} (h : Rp G v d) (hd : seqD d = some xs) : ∃ (b : Bool) (a : Addr) (vs : List V), v = .ref a ∧ RpAll G vs xs ∧ ∀ G2 H2, Ext G G2 → Same G2 H2 → SqV b K H2 a vs := by
  cases d with
  | list ds =>
    cases hd
    cases h with
    | @lst a ws _ ra ha => exact ⟨false, a, ws, rfl, ha, fun G2 H2 x s => sqL (rd_same s (x.ls a ws ra))⟩
  | tuple ds =>
    cases hd
    cases h with
    | @tup a ws _ ra ha => exact ⟨true, a, ws, rfl, ha, fun G2 H2 x s => sqT (s _ _ (x.tp a ws ra))⟩
  | _ => cases hd
theorem i_zip {m n : G6.X} {K : PySem.W.Frag} (σ : L2.St) (H : Hp) (R : L2.It → Hp → Prop) (h : tIt W (.zip m n) σ H R) : iZipV K (tXs W [m, n]) σ H R := by
  obtain ⟨g, env, G, er, h⟩ := h
  refine ⟨g, env, G, er, ?_⟩
  simp only [It.ev] at h
  cases q : m env with
  | bad => rw [q] at h; exact h.elim
  | exc c e => rw [q] at h; simp only [evXs, q, Re.bind_exc]; exact h
  | ok r e =>
    rw [q] at h
    simp only [Re.bind_ok] at h
    cases q2 : n e with
    | bad => rw [q2] at h; exact h.elim
    | exc c e => rw [q2] at h; simp only [evXs, q, q2, Re.bind_ok, Re.bind_exc]; exact h
    | ok r2 e2 =>
      rw [q2] at h
      simp only [evXs, q, q2, Re.bind_ok] at h ⊢
      intro G' H' x er' vs hvs
      obtain ⟨v1, v2, rfl, h1, h2⟩ : ∃ v1 v2, vs = [v1, v2] ∧ Rp G' v1 r.1 ∧ Rp G' v2 r2.1 := by
        cases hvs with
        | cons h1 h2 =>
          cases h2 with
          | cons h2 h3 =>
            cases h3
            exact ⟨_, _, rfl, h1, h2⟩
      have fin : ∀ {xs ys : List D}, seqD r.1 = some xs → seqD r2.1 = some ys → After W g G σ (.ok (zipD xs ys) e2) (fun ds e G' H' => ∀ it, Goes it ds G' → R it H') → ∃ b1 b2 a b xs ys, [v1, v2] = [V.ref a, V.ref b] ∧ SqV b1 K H' a xs ∧ SqV b2 K H' b ys ∧ R (ItzV K b1 b2 a b) H' := by
        intro xs ys e1 e2' h
        obtain ⟨b1, a, ws, rfl, ha, ra⟩ := sqV_ext (K := K) h1 e1
        obtain ⟨b2, b, us, rfl, hb, rb⟩ := sqV_ext (K := K) h2 e2'
        exact ⟨b1, b2, a, b, ws, us, rfl, ra G' H' (.refl G') er'.gH, rb G' H' (.refl G') er'.gH, h G' H' x er' _ (goes_zipV ra ha rb hb)⟩
      split at h
      · rename_i xs ys hr hr2
        exact fin (by rw [hr]; rfl) (by rw [hr2]; rfl) h
      · rename_i xs ys hr hr2
        exact fin (by rw [hr]; rfl) (by rw [hr2]; rfl) h
      · rename_i xs ys hr hr2
        exact fin (by rw [hr]; rfl) (by rw [hr2]; rfl) h
      · rename_i xs ys hr hr2
        exact fin (by rw [hr]; rfl) (by rw [hr2]; rfl) h
      · exact h.elim
theorem i_bad1 {m n : G6.X} {P : Prop} (σ : L2.St) (H : Hp) (R : L2.It → Hp → Prop) (h : tIt W (.enumZip m n) σ H R) : P := by
  obtain ⟨g, env, G, er, h⟩ := h
  exact h.elim
theorem i_bad2 {m : G6.X} {P : Prop} (σ : L2.St) (H : Hp) (R : L2.It → Hp → Prop) (h : tIt W (.items m) σ H R) : P := by
  obtain ⟨g, env, G, er, h⟩ := h
  exact h.elim
theorem pi_bad {tg e : Expr} {t : TI} (h : ∀ σ H R, t σ H R → False) : PI X tg e t := ⟨fun _ _ σ H R _ q => (h σ H R q).elim⟩
theorem compIt_fold {tup : Bool} {e : Expr} {it : It} (h : compIt r c tup e = some it) (env : Env) (x : Value) : foldedSetIterable e env x = pure x := by
  cases e with
  | Set a b d => simp [compIt] at h
  | _ => rfl
/-- a target that is a tuple, where the iterator hands out its own -/
def TupOk (tup : Bool) (tg : Expr) : Prop := tup = true → ∃ es kk p, tg = .Tuple es kk p
theorem snd_It (hr : SndE r) (g : Good X c W k) {tup : Bool} {tg e : Expr} {it : It} (ht : TupOk tup tg) (h : compIt r c tup e = some it) : PI X tg e (tIt W it) := by
  have val : ∀ {e : Expr}, (r c e).map It.val = some it → PI X tg e (tIt W it) := by
    intro e h
    rw [Option.map_eq_some_iff] at h
    obtain ⟨m, h1, rfl⟩ := h
    exact PI.imp (pi_any (hr c _ m h1 X W k g)) i_val
  unfold compIt at h
  split at h
  · rename_i f p args kws pos
    split at h
    · rename_i hb
      obtain ⟨b1, b2, b3, b4⟩ := blt_of g hb
      split at h
      · rename_i hf
        subst hf
        split at h
        · rename_i a
          rw [Option.bind_eq_some_iff] at h
          obtain ⟨ps, h1, h2⟩ := h
          split at h2
          · rename_i x
            cases h2
            have st := compPs_star h1
            exact PI.imp (pi_range1 b1 b2 (snd_Ps hr g h1) (star_of (st _ (by simp)) _)) i_rng1
          · cases h2
        · rename_i a b
          rw [Option.bind_eq_some_iff] at h
          obtain ⟨ps, h1, h2⟩ := h
          split at h2
          · rename_i x y
            cases h2
            have st := compPs_star h1
            exact PI.imp (pi_range2 b1 b2 (snd_Ps hr g h1) (by rw [star_of (st _ (by simp)) _, star_of (st _ (by simp)) _]; rfl) (star_of (st _ (by simp)) _)) i_rng2
          · cases h2
        · cases h
      · split at h
        · rename_i hf
          subst hf
          split at h
          · rename_i a b
            split at h
            · rename_i htup
              rw [Option.bind_eq_some_iff] at h
              obtain ⟨ms, h1, h2⟩ := h
              split at h2
              · rename_i x y
                cases h2
                have st := compXs_star h1
                obtain ⟨es, kk, tp, rfl⟩ := ht htup
                exact PI.imp (pi_zipV b1 b2 (snd_Xs hr g h1) (star_of (st _ (by simp)) _) (stars_any fun e he => st e (by simp at he ⊢; exact .inr he))) i_zip
              · cases h2
            · cases h
          · cases h
        · split at h
          · rename_i hf
            subst hf
            split at h
            · rename_i gn gp gargs gkws gpos
              split at h
              · rename_i htup
                split at h
                · split at h
                  · rw [Option.bind_eq_some_iff] at h
                    obtain ⟨ms, h1, h2⟩ := h
                    split at h2
                    · cases h2
                      exact pi_bad fun σ H R q => i_bad1 σ H R q
                    · cases h2
                  · cases h
                · rw [Option.map_eq_some_iff] at h
                  obtain ⟨m, h1, rfl⟩ := h
                  obtain ⟨es, kk, tp, rfl⟩ := ht htup
                  exact PI.imp (pi_enumA b1 b2 (PA.imp (pa_cons (hr c _ m h1 X W k g) (PA.imp pa_nil xs_nil) rfl) xs_cons) rfl) i_enum
              · cases h
            · rename_i a na
              split at h
              · rename_i htup
                simp only [Bool.and_eq_true] at htup
                rw [Option.map_eq_some_iff] at h
                obtain ⟨m, h1, rfl⟩ := h
                obtain ⟨es, kk, tp, rfl⟩ := ht htup.1
                exact PI.imp (pi_enumA b1 b2 (PA.imp (pa_cons (hr c _ m h1 X W k g) (PA.imp pa_nil xs_nil) (star_of htup.2 _)) xs_cons) (star_of htup.2 _)) i_enum
              · cases h
            · cases h
          · exact val h
    · exact val h
  · split at h
    · split at h
      · rw [Option.map_eq_some_iff] at h
        obtain ⟨m, h1, rfl⟩ := h
        exact pi_bad fun σ H R q => i_bad2 σ H R q
      · cases h
    · exact val h
  · cases h
  · exact val h
end
end G6

namespace G6
open PySem PySem.Spec L2
section
variable {r : RE} {X : Cx} {c : SC} {W : Wx} {k : Nat}
/-! comprehensions -/
theorem inner_good (g : Good X c W k) (s : Shared) (H : Hp) (C : Addr) (cl : List (Str × Addr)) (fp : List Addr) (scope : Scope) : Good (X.blk s H scope (compEnvC scope cl C X.env) fp) (inner c scope) wF k where
  hN := g.hN
  nd := g.nd
  sc := by
    show relS scope X.env.scope = relS scope c.sc
    rw [g.sc]
  calm := g.calm
  fnB := fun x h => h
  bl := g.bl
  room := g.room
  defs := g.defs
  exs := g.exs
  exm := g.exm
  tk := fun u s' x => by
    obtain ⟨_, _, _, _, _, _, _, _, _, _, _, _, _, _, _, _, _, _, _, z⟩ := x
    exact z.elim
  po := fun h => by cases h
theorem tup_ok {n : Nat} {e : Expr} {t : Tg} (h : compTg c n e = some t) : TupOk (isTupT t) e := by
  intro ht
  cases n with
  | zero => simp [compTg] at h
  | succ n =>
    simp only [compTg] at h
    split at h
    · rw [Option.map_eq_some_iff] at h
      obtain ⟨i, _, rfl⟩ := h
      cases ht
    · rename_i es a b
      exact ⟨es, a, b, rfl⟩
    · cases h
theorem pts_of0 : PTs X [] (tTe W (allT [])) := ⟨fun pins s σ H Q I hw => pts_nil.run pins s σ H Q I (by
  obtain ⟨g, env, G, er, h⟩ := hw
  exact h G H (.refl G) er)⟩
theorem pts_of1 {e : Expr} {u : G6.T} (h : PT X e (tTe W u)) : PTs X [e] (tTe W (allT [u])) := ⟨fun pins s σ H Q I hw => (pts_one h).run pins s σ H Q I (by
  obtain ⟨g, env, G, er, h⟩ := hw
  refine ⟨g, env, G, er, ?_⟩
  simp only [allT] at h
  refine h.split.mono fun b e G' H' x er' h => ?_
  cases b with
  | true => exact h G' H' (.refl G') er'
  | false => exact h G' H' (.refl G') er')⟩
theorem all_in {t : Tg} {own : List Nat} (h : t.slots.all (fun i => own.contains i) = true) : ∀ i ∈ t.slots, i ∈ own := fun i hi => by
  have := List.all_eq_true.mp h i hi
  simpa using this
/-- a comprehension as a value, and stored on its line -/
theorem snd_lc (hr : SndE r) (g : Good X c W k) {elt : Expr} {gens : List Comprehension} {scope : Scope} {m : G6.X} {pos : Pos} (h : compLc r c elt gens scope = some m) :
    PE X (.ListComp elt gens scope pos) (tX W m) ∧ ∀ (i : Nat) (y : Str) (py spos : Pos), X.N[i]? = some y → X.env.scope.names.lookup y = some .local → swapsWith (.ListComp elt gens scope pos) (some (.Name y py)) spos.line X.env = pure true →
      PS X (.Assign [.Name y py] (.ListComp elt gens scope pos) spos) (tAsg (tX W m) (gName i)) := by
  unfold compLc at h
  dsimp only at h
  have hb := (ite_some h).1
  replace h := (ite_some h).2
  have ok : BlkOk X.N X.env.scope scope (ownOf c scope) := by
    rw [g.hN, g.sc]
    exact blkOk_by hb
  split at h
  · rename_i tg it ifs
    replace h := Option.bind_eq_some_iff.mp h
    obtain ⟨t, h1, h⟩ := h
    have ha := (ite_some h).1
    replace h := (ite_some h).2
    replace h := Option.bind_eq_some_iff.mp h
    obtain ⟨it', h2, h⟩ := h
    have pi := snd_It hr g (tup_ok h1) h2
    have fold := compIt_fold h2 X.env
    have pg : ∀ (s : Shared) (H : Hp) (C : Addr) (cl : List (Str × Addr)) (fp : List Addr), PG (X.blk s H scope (compEnvC scope cl C X.env) fp) tg (gTg X.K t) := fun s H C cl fp => (snd_Tg (inner_good g s H C cl fp scope) 8 tg t h1).1
    have fin : ∀ {ts : List G6.T} {e : G6.X}, (∀ (s : Shared) (H : Hp) (C : Addr) (cl : List (Str × Addr)) (fp : List Addr), PTs (X.blk s H scope (compEnvC scope cl C X.env) fp) ifs (tTe wF (allT ts))) → r (inner c scope) elt = some e → m = xLc ((ownOf c scope).map (·.2)) it' t ts e →
        PE X (.ListComp elt [⟨tg, it, ifs, 0⟩] scope pos) (tX W m) ∧ ∀ (i : Nat) (y : Str) (py spos : Pos), X.N[i]? = some y → X.env.scope.names.lookup y = some .local → swapsWith (.ListComp elt [⟨tg, it, ifs, 0⟩] scope pos) (some (.Name y py)) spos.line X.env = pure true →
          PS X (.Assign [.Name y py] (.ListComp elt [⟨tg, it, ifs, 0⟩] scope pos) spos) (tAsg (tX W m) (gName i)) := by
      intro ts e pt h3 hm
      subst hm
      have pe : ∀ (s : Shared) (H : Hp) (C : Addr) (cl : List (Str × Addr)) (fp : List Addr), PE (X.blk s H scope (compEnvC scope cl C X.env) fp) elt (tX wF e) := fun s H C cl fp => hr _ elt e h3 _ _ _ (inner_good g s H C cl fp scope)
      refine ⟨PE.imp (pe_lc g.calm g.nd pi ok pg pt pe fold) (l_lc (all_in ha)), fun i y py spos hy hyl hsw => ?_⟩
      exact PS.imp (ps_setLc g.calm g.nd hy hyl hsw pi ok pg pt pe fold) fun E σ H q => l_lc (all_in ha) σ H _ q
    split at h
    · rw [Option.bind_eq_some_iff] at h
      obtain ⟨e, h3, h4⟩ := h
      exact fin (ts := []) (fun s H C cl fp => pts_of0) h3 (Option.some.inj h4).symm
    · rename_i x
      replace h := Option.bind_eq_some_iff.mp h
      obtain ⟨u, h5, h⟩ := h
      rw [Option.bind_eq_some_iff] at h
      obtain ⟨e, h3, h4⟩ := h
      exact fin (ts := [u]) (fun s H C cl fp => pts_of1 (snd_T hr (inner_good g s H C cl fp scope) 20 x u h5)) h3 (Option.some.inj h4).symm
    · cases h
  · rename_i tg it tg2 it2 ifs
    replace h := Option.bind_eq_some_iff.mp h
    obtain ⟨t, h1, h⟩ := h
    replace h := Option.bind_eq_some_iff.mp h
    obtain ⟨t2, h12, h⟩ := h
    have ha := (ite_some h).1
    replace h := (ite_some h).2
    simp only [Bool.and_eq_true] at ha
    have ha1 : ∀ i ∈ t.slots, i ∈ (ownOf c scope).map (·.2) := fun i hi => by
      have := List.all_eq_true.mp ha.1 i hi
      simp only [Bool.and_eq_true] at this
      simpa using this.1
    have ha2 : ∀ i ∈ t2.slots, i ∈ (ownOf c scope).map (·.2) := all_in ha.2
    replace h := Option.bind_eq_some_iff.mp h
    obtain ⟨it', h2, h⟩ := h
    replace h := Option.bind_eq_some_iff.mp h
    obtain ⟨it2', h22, h⟩ := h
    have pi := snd_It hr g (tup_ok h1) h2
    have fold := compIt_fold h2 X.env
    have pg : ∀ (s : Shared) (H : Hp) (C : Addr) (cl : List (Str × Addr)) (fp : List Addr), PG (X.blk s H scope (compEnvC scope cl C X.env) fp) tg (gTg X.K t) := fun s H C cl fp => (snd_Tg (inner_good g s H C cl fp scope) 8 tg t h1).1
    have pg2 : ∀ (s : Shared) (H : Hp) (C : Addr) (cl : List (Str × Addr)) (fp : List Addr), PG (X.blk s H scope (compEnvC scope cl C X.env) fp) tg2 (gTg X.K t2) := fun s H C cl fp => (snd_Tg (inner_good g s H C cl fp scope) 8 tg2 t2 h12).1
    have pi2 : ∀ (s : Shared) (H : Hp) (C : Addr) (cl : List (Str × Addr)) (fp : List Addr), PI (X.blk s H scope (compEnvC scope cl C X.env) fp) tg2 it2 (tIt wF it2') := fun s H C cl fp => snd_It hr (inner_good g s H C cl fp scope) (tup_ok h12) h22
    have fold2 : ∀ env x, foldedSetIterable it2 env x = pure x := fun env x => compIt_fold h22 env x
    have fin : ∀ {ts : List G6.T} {e : G6.X}, (∀ (s : Shared) (H : Hp) (C : Addr) (cl : List (Str × Addr)) (fp : List Addr), PTs (X.blk s H scope (compEnvC scope cl C X.env) fp) ifs (tTe wF (allT ts))) → r (inner c scope) elt = some e → m = xLc2 ((ownOf c scope).map (·.2)) it' t t2.slots it2' t2 ts e →
        PE X (.ListComp elt [⟨tg, it, [], 0⟩, ⟨tg2, it2, ifs, 0⟩] scope pos) (tX W m) ∧ ∀ (i : Nat) (y : Str) (py spos : Pos), X.N[i]? = some y → X.env.scope.names.lookup y = some .local → swapsWith (.ListComp elt [⟨tg, it, [], 0⟩, ⟨tg2, it2, ifs, 0⟩] scope pos) (some (.Name y py)) spos.line X.env = pure true →
          PS X (.Assign [.Name y py] (.ListComp elt [⟨tg, it, [], 0⟩, ⟨tg2, it2, ifs, 0⟩] scope pos) spos) (tAsg (tX W m) (gName i)) := by
      intro ts e pt h3 hm
      subst hm
      have pe : ∀ (s : Shared) (H : Hp) (C : Addr) (cl : List (Str × Addr)) (fp : List Addr), PE (X.blk s H scope (compEnvC scope cl C X.env) fp) elt (tX wF e) := fun s H C cl fp => hr _ elt e h3 _ _ _ (inner_good g s H C cl fp scope)
      refine ⟨PE.imp (pe_lc2 g.calm g.nd pi ok ha2 pg (fun s H C cl fp => pts_nil) pi2 pg2 pt pe fold fold2) (l_lc2 ha1 (fun i hi => hi) ha2), fun i y py spos hy hyl hsw => ?_⟩
      exact PS.imp (ps_setLc2 g.calm g.nd hy hyl hsw pi ok ha2 pg (fun s H C cl fp => pts_nil) pi2 pg2 pt pe fold fold2) fun E σ H q => l_lc2 ha1 (fun i hi => hi) ha2 σ H _ q
    split at h
    · rw [Option.bind_eq_some_iff] at h
      obtain ⟨e, h3, h4⟩ := h
      exact fin (ts := []) (fun s H C cl fp => pts_of0) h3 (Option.some.inj h4).symm
    · rename_i x
      replace h := Option.bind_eq_some_iff.mp h
      obtain ⟨u, h5, h⟩ := h
      rw [Option.bind_eq_some_iff] at h
      obtain ⟨e, h3, h4⟩ := h
      exact fin (ts := [u]) (fun s H C cl fp => pts_of1 (snd_T hr (inner_good g s H C cl fp scope) 20 x u h5)) h3 (Option.some.inj h4).symm
    · cases h
  · cases h
/-- name = {..} on one line, the name a local -/
theorem ps_setDc {i : Nat} {y : Str} {py : Pos} {kx vx tg iter : Expr} {ifs : List Expr} {scope : Scope} {own : List (Str × Nat)} {pos spos : Pos} {wi : TI} {g : TG} {tt : TT} {tk tv : TE} (hc : X.calm = true) (hN : X.N.Nodup) (hy : X.N[i]? = some y) (hyl : X.env.scope.names.lookup y = some .local)
    (hsw : swapsWith (.DictComp kx vx [⟨tg, iter, ifs, 0⟩] scope pos) (some (.Name y py)) spos.line X.env = pure true) (hi : PI X tg iter wi) (ok : BlkOk X.N X.env.scope scope own)
    (hg : ∀ (s : Shared) (H : Hp) (C : Addr) (cl : List (Str × Addr)) (fp : List Addr), PG (X.blk s H scope (compEnvC scope cl C X.env) fp) tg g) (ht : ∀ (s : Shared) (H : Hp) (C : Addr) (cl : List (Str × Addr)) (fp : List Addr), PTs (X.blk s H scope (compEnvC scope cl C X.env) fp) ifs tt)
    (hk : ∀ (s : Shared) (H : Hp) (C : Addr) (cl : List (Str × Addr)) (fp : List Addr), PE (X.blk s H scope (compEnvC scope cl C X.env) fp) kx tk)
    (he : ∀ (s : Shared) (H : Hp) (C : Addr) (cl : List (Str × Addr)) (fp : List Addr), PE (X.blk s H scope (compEnvC scope cl C X.env) fp) vx tv) (hs : ∀ x, foldedSetIterable iter X.env x = pure x) :
    PS X (.Assign [.Name y py] (.DictComp kx vx [⟨tg, iter, ifs, 0⟩] scope pos) spos) (tAsg (tDc wi g tt tk tv (own.map (·.2))) (gName i)) := by
  refine ⟨fun pins s σ H E I h => ?_⟩
  rw [exec_Assign_Name_used _ _ _ _ hsw]
  refine wpAny_bind (wpAny_standAt (wpAny_bind ?_))
  show wpAny _ X.A (do let _ ← comprehension (.DictComp kx vx [⟨tg, iter, ifs, 0⟩] scope pos) scope X.env (firstIterPos [⟨tg, iter, ifs, 0⟩] pos) newDict false (eval iter X.env) (some (assign (.Name y py) X.env))) _ _ s
  have h0 : tDc wi g tt tk tv (own.map (·.2)) σ H (fun x H1 => gName i x σ H1 E.nx) := h
  refine wpAny_bind (thn (dc_core (Qf := fun _ s' => SP X pins E .next s') hc hN I hi ok hg ht hk he hs h0 fun d C s' m H' I' q hn f => ?_) fun _ s' hq => wpAny_pure (wpAny_pure hq))
  show wpAny _ _ (assign (.Name y py) X.env (.ref d)) _ _ _
  refine wpAny_assign_Name (store_ok2 (v := V.ref d) I' hN hy (.inl hyl) rfl (fun s2 I2 ⟨a, sb, ha⟩ => ?_) (.inr hyl))
  obtain ⟨f0, f1, f2, f3, f4, f5⟩ := f
  have far : C ≠ a := by
    rcases ha with z | z
    · exact z ▸ f1
    · intro e; exact f4 y a z e.symm
  exact ⟨m, hn.sameBut sb far, fun h3 sb3 => ⟨_, H', I2.turned (t' := s2.toks) (fun b o hb e => (sb3.2 b hb).trans e) f0 f1 f3 f4 f5, q⟩⟩
theorem snd_dc (hr : SndE r) (g : Good X c W k) {kx vx : Expr} {gens : List Comprehension} {scope : Scope} {m : G6.X} {pos : Pos} (h : compDc r c kx vx gens scope = some m) :
    PE X (.DictComp kx vx gens scope pos) (tX W m) ∧ ∀ (i : Nat) (y : Str) (py spos : Pos), X.N[i]? = some y → X.env.scope.names.lookup y = some .local → swapsWith (.DictComp kx vx gens scope pos) (some (.Name y py)) spos.line X.env = pure true →
      PS X (.Assign [.Name y py] (.DictComp kx vx gens scope pos) spos) (tAsg (tX W m) (gName i)) := by
  unfold compDc at h
  dsimp only at h
  have hb := (ite_some h).1
  replace h := (ite_some h).2
  have ok : BlkOk X.N X.env.scope scope (ownOf c scope) := by
    rw [g.hN, g.sc]
    exact blkOk_by hb
  split at h
  · rename_i tg it
    replace h := Option.bind_eq_some_iff.mp h
    obtain ⟨t, h1, h⟩ := h
    have ha := (ite_some h).1
    replace h := (ite_some h).2
    simp only [Option.bind_eq_some_iff] at h
    obtain ⟨it', h2, a, h3, b, h4, h5⟩ := h
    have pi := snd_It hr g (tup_ok h1) h2
    have fold := compIt_fold h2 X.env
    have pg : ∀ (s : Shared) (H : Hp) (C : Addr) (cl : List (Str × Addr)) (fp : List Addr), PG (X.blk s H scope (compEnvC scope cl C X.env) fp) tg (gTg X.K t) := fun s H C cl fp => (snd_Tg (inner_good g s H C cl fp scope) 8 tg t h1).1
    have pk : ∀ (s : Shared) (H : Hp) (C : Addr) (cl : List (Str × Addr)) (fp : List Addr), PE (X.blk s H scope (compEnvC scope cl C X.env) fp) kx (tX wF a) := fun s H C cl fp => hr _ kx a h3 _ _ _ (inner_good g s H C cl fp scope)
    have pv : ∀ (s : Shared) (H : Hp) (C : Addr) (cl : List (Str × Addr)) (fp : List Addr), PE (X.blk s H scope (compEnvC scope cl C X.env) fp) vx (tX wF b) := fun s H C cl fp => hr _ vx b h4 _ _ _ (inner_good g s H C cl fp scope)
    have e5 := Option.some.inj h5
    subst e5
    refine ⟨PE.imp (pe_dc g.calm g.nd pi ok pg (fun s H C cl fp => pts_nil) pk pv fold) (l_dc (all_in ha)), fun i y py spos hy hyl hsw => ?_⟩
    exact PS.imp (ps_setDc g.calm g.nd hy hyl hsw pi ok pg (fun s H C cl fp => pts_nil) pk pv fold) fun E σ H q => l_dc (all_in ha) σ H _ q
  · cases h
end
end G6

namespace G6
open PySem PySem.Spec L2
section
variable {r : RE} {X : Cx} {c : SC} {W : Wx} {k : Nat}
/-! names of built-ins -/
theorem ty_boot {x : Str} {t : Ty} (h : tyOf x = some t) : bootBuiltins x = some (.type (tyStr t)) := by
  unfold tyOf at h
  rw [Option.map_eq_some_iff] at h
  obtain ⟨p, h1, rfl⟩ := h
  have hm := List.mem_of_find?_eq_some h1
  have hx : p.1 = x := by
    have := List.find?_some h1
    simpa using this
  subst hx
  simp only [tyTab, List.mem_cons, List.not_mem_nil, or_false] at hm
  rcases hm with rfl | rfl | rfl | rfl | rfl <;> decide +kernel
theorem bi_of {x : Str} {n : Nat} {b : Bi} (h : biOf x n = some b) : (x, n, b) ∈ biTab := by
  unfold biOf at h
  rw [Option.map_eq_some_iff] at h
  obtain ⟨p, h1, rfl⟩ := h
  have hm := List.mem_of_find?_eq_some h1
  have hx := List.find?_some h1
  simp only [Bool.and_eq_true, decide_eq_true_eq, beq_iff_eq] at hx
  obtain ⟨hx, hn⟩ := hx
  subst hx hn
  exact hm
theorem one_arg {args : List Expr} (h : 1 = args.length) : ∃ a, args = [a] := by
  match args, h with
  | [a], _ => exact ⟨a, rfl⟩
theorem two_arg {args : List Expr} (h : 2 = args.length) : ∃ a b, args = [a, b] := by
  match args, h with
  | [a, b], _ => exact ⟨a, b, rfl⟩
theorem bi_pe (g : Good X c W k) {f : Str} {args : List Expr} {b : Bi} {ps : List Pk} {p pos : Pos} (h : biOf f args.length = some b) (hb : isBlt c f = true) (ha : PA X args (tPks W ps)) (st : ∀ e ∈ args, notStar e = true) :
    PE X (.Call (.Name f p) args [] pos) (tX W (xPrim b.pr ps)) := by
  obtain ⟨b1, b2, b3, b4⟩ := blt_of g hb
  have hm := bi_of h
  have hu := g.room.units
  simp only [biTab, List.mem_cons, List.not_mem_nil, or_false, Prod.mk.injEq] at hm
  have B : ∀ {id : String} {e : Expr} {es : List Expr} {q : Pr}, args = e :: es → CallR X (.builtin id) (rN q) → bootBuiltins f = some (.builtin id) → b.pr = q → PE X (.Call (.Name f p) args [] pos) (tX W (xPrim b.pr ps)) := by
    intro id e es q ea cr bo eq
    subst ea
    rw [eq]
    exact PE.imp (pe_callB cr b1 b2 bo ha b4 b3 (star_of (st e List.mem_cons_self) _) (stars_any fun x hx => st x (List.mem_cons_of_mem _ hx))) prim_of
  have T : ∀ {id : String} {e : Expr} {es : List Expr} {q : Pr}, args = e :: es → CallR X (.type id) (rN q) → bootBuiltins f = some (.type id) → b.pr = q → PE X (.Call (.Name f p) args [] pos) (tX W (xPrim b.pr ps)) := by
    intro id e es q ea cr bo eq
    subst ea
    rw [eq]
    exact PE.imp (pe_callTy cr b1 b2 bo ha b4 b3 (star_of (st e List.mem_cons_self) _) (stars_any fun x hx => st x (List.mem_cons_of_mem _ hx))) prim_of
  rcases hm with ⟨rfl, hn, rfl⟩ | ⟨rfl, hn, rfl⟩ | ⟨rfl, hn, rfl⟩ | ⟨rfl, hn, rfl⟩ | ⟨rfl, hn, rfl⟩ | ⟨rfl, hn, rfl⟩ | ⟨rfl, hn, rfl⟩ | ⟨rfl, hn, rfl⟩ | ⟨rfl, hn, rfl⟩ | ⟨rfl, hn, rfl⟩ | ⟨rfl, hn, rfl⟩ | ⟨rfl, hn, rfl⟩ | ⟨rfl, hn, rfl⟩ | ⟨rfl, hn, rfl⟩ 
  · obtain ⟨a, e⟩ := one_arg hn.symm; exact B e call_pLen (by decide +kernel) rfl
  · obtain ⟨a, e⟩ := one_arg hn.symm; exact B e call_pAbs (by decide +kernel) rfl
  · obtain ⟨a, e⟩ := one_arg hn.symm; exact B e (call_pMax1 g.calm hu) (by decide +kernel) rfl
  · obtain ⟨a, d, e⟩ := two_arg hn.symm; exact B e (call_pMax2 g.calm hu) (by decide +kernel) rfl
  · obtain ⟨a, e⟩ := one_arg hn.symm; exact B e (call_pMin1 g.calm hu) (by decide +kernel) rfl
  · obtain ⟨a, d, e⟩ := two_arg hn.symm; exact B e (call_pMin2 g.calm hu) (by decide +kernel) rfl
  · obtain ⟨a, e⟩ := one_arg hn.symm; exact B e (call_pSum g.calm) (by decide +kernel) rfl
  · obtain ⟨a, e⟩ := one_arg hn.symm; exact B e (call_pAll g.calm) (by decide +kernel) rfl
  · obtain ⟨a, e⟩ := one_arg hn.symm; exact B e (call_pAny g.calm) (by decide +kernel) rfl
  · obtain ⟨a, e⟩ := one_arg hn.symm; exact B e (call_pSorted g.calm hu) (by decide +kernel) rfl
  · obtain ⟨a, e⟩ := one_arg hn.symm; exact T e (call_pList g.calm) (by decide +kernel) rfl
  · obtain ⟨a, e⟩ := one_arg hn.symm; exact T e (call_pTuple g.calm) (by decide +kernel) rfl
  · obtain ⟨a, e⟩ := one_arg hn.symm; exact T e call_pInt (by decide +kernel) rfl
  · obtain ⟨a, e⟩ := one_arg hn.symm; exact T e call_pStr (by decide +kernel) rfl
/-! arguments of defs -/
theorem evArs_v {m : G6.X} {as : List Ar} {env e : En} {ts : List At} (h : evArs (.v m :: as) env = .ok ts e) : ∃ d e1 ts', evArs as e1 = .ok ts' e ∧ ts = .v d :: ts' := by
  simp only [evArs] at h
  cases q : m env with
  | ok x e1 =>
    rw [q] at h
    simp only [Re.bind_ok] at h
    cases q2 : evArs as e1 with
    | ok ts' e2 =>
      rw [q2] at h
      simp only [Re.bind_ok] at h
      cases h
      exact ⟨_, e1, ts', q2, rfl⟩
    | exc a b => rw [q2] at h; cases h
    | bad => rw [q2] at h; cases h
  | exc a b => rw [q] at h; cases h
  | bad => rw [q] at h; cases h
theorem evArs_io {i : Nat} {as : List Ar} {env e : En} {ts : List At} (h : evArs (.io i :: as) env = .ok ts e) : ∃ ts', evArs as env = .ok ts' e ∧ ts = .io i :: ts' := by
  simp only [evArs] at h
  split at h
  · cases q2 : evArs as env with
    | ok ts' e2 =>
      rw [q2] at h
      simp only [Re.bind_ok] at h
      cases h
      exact ⟨ts', rfl, rfl⟩
    | exc a b => rw [q2] at h; cases h
    | bad => rw [q2] at h; cases h
  · cases h
theorem evArs_tmp {m : G6.X} {env e : En} {ts : List At} (h : evArs [.tmp m] env = .ok ts e) : ∃ d, ts = [.tmp d] := by
  simp only [evArs] at h
  cases q : m env with
  | ok x e1 =>
    rw [q] at h
    simp only [Re.bind_ok] at h
    split at h
    · cases h; exact ⟨_, rfl⟩
    · cases h
  | exc a b => rw [q] at h; cases h
  | bad => rw [q] at h; cases h
theorem lent_io (i : Nat) (ts : List At) : lent (.io i :: ts) = i :: lent ts := rfl
theorem lent_v (d : D) (ts : List At) : lent (.v d :: ts) = lent ts := rfl
theorem snd_Ar (hr : SndE r) (g : Good X c W k) : ∀ {io : List Bool} {es : List Expr} {as : List Ar}, compAr r c io es = some as →
    PA X es (tArs W as) ∧ (∀ e ∈ es, notStar e = true) ∧ ∀ env ts e, evArs as env = .ok ts e → IoAs io ts ∧ lent ts = ioOf as
  | [], [], as, h => by
    simp only [compAr, Option.some.injEq] at h
    subst h
    refine ⟨PA.imp pa_nil ars_nil, by simp, fun env ts e q => ?_⟩
    cases q
    exact ⟨.nil, rfl⟩
  | [], _ :: _, _, h => by simp [compAr] at h
  | false :: io, [], _, h => by simp [compAr] at h
  | true :: io, [], _, h => by simp [compAr] at h
  | false :: io, e :: es, as, h => by
    simp only [compAr] at h
    have hs := (ite_some h).1
    replace h := (ite_some h).2
    simp only [Option.bind_eq_some_iff] at h
    obtain ⟨m, h1, as', h2, h3⟩ := h
    have h4 := Option.some.inj h3
    subst h4
    obtain ⟨s1, s2, s3⟩ := snd_Ar hr g h2
    refine ⟨PA.imp (pa_cons (hr c e m h1 X W k g) s1 (star_of hs _)) ars_v, fun x hx => ?_, fun env ts e2 q => ?_⟩
    · rcases List.mem_cons.mp hx with rfl | hx
      · exact hs
      · exact s2 x hx
    · obtain ⟨d, e1, ts', q1, rfl⟩ := evArs_v q
      obtain ⟨t1, t2⟩ := s3 _ _ _ q1
      exact ⟨.v t1, t2⟩
  | true :: io, e :: es, as, h => by
    simp only [compAr] at h
    split at h
    · rename_i x pos
      simp only [Option.bind_eq_some_iff] at h
      obtain ⟨i, h1, as', h2, h3⟩ := h
      have h4 := Option.some.inj h3
      subst h4
      obtain ⟨s1, s2, s3⟩ := snd_Ar hr g h2
      refine ⟨PA.imp (pa_cons (slot_of g h1) s1 rfl) ars_io, fun y hy => ?_, fun env ts e2 q => ?_⟩
      · rcases List.mem_cons.mp hy with rfl | hy
        · rfl
        · exact s2 y hy
      · obtain ⟨ts', q1, rfl⟩ := evArs_io q
        obtain ⟨t1, t2⟩ := s3 _ _ _ q1
        exact ⟨.io t1, by rw [lent_io, t2]; rfl⟩
    · cases h
    · rename_i n1 n2
      simp only [Option.bind_eq_some_iff] at h
      obtain ⟨m, h1, h⟩ := h
      split at h
      · have h4 := Option.some.inj h
        subst h4
        have hs : notStar e = true := by
          cases e <;> first | rfl | exact (n2 _ _ rfl).elim
        refine ⟨PA.imp (pa_cons (hr c e m h1 X W k g) pa_nil (star_of hs _)) ars_tmp, fun y hy => ?_, fun env ts e2 q => ?_⟩
        · rcases List.mem_cons.mp hy with rfl | hy
          · exact hs
          · cases hy
        · obtain ⟨d, rfl⟩ := evArs_tmp q
          exact ⟨.tmp, rfl⟩
      · cases h
theorem nodup_of : ∀ {l : List Nat}, nodupB l = true → l.Nodup
  | [], _ => .nil
  | x :: xs, h => by
    simp only [nodupB, Bool.and_eq_true, Bool.not_eq_true'] at h
    exact List.nodup_cons.mpr ⟨by simpa using h.1, nodup_of h.2⟩
end
end G6

namespace G6
open PySem PySem.Spec L2
section
variable {r : RE} {X : Cx} {c : SC} {W : Wx} {k : Nat}
theorem snd_call (hr : SndE r) (g : Good X c W k) {f : Str} {args : List Expr} {m : G6.X} {p pos : Pos} (h : compCall r c f args = some m) : PE X (.Call (.Name f p) args [] pos) (tX W m) := by
  have hu := g.room.units
  unfold compCall at h
  split at h
  · rename_i hb
    obtain ⟨b1, b2, b3, b4⟩ := blt_of g hb
    split at h
    · rename_i hf
      subst hf
      split at h
      · rename_i a t tp
        have ht := (ite_some h).1
        replace h := (ite_some h).2
        obtain ⟨t1, t2, t3, t4⟩ := blt_of g ht
        simp only [Option.bind_eq_some_iff, Option.map_eq_some_iff] at h
        obtain ⟨ty, h1, q, h2, rfl⟩ := h
        have hs := (ite_some h1).1
        have h1 := (ite_some h1).2
        have pt : PE X (.Name t tp) (tC (.ty (tyStr ty))) := pe_bltn t1 t2 (ty_boot h1) rfl t4 t3
        exact PE.imp (pe_callB (call_pIsi ty) b1 b2 (by decide +kernel) (pa_cons (snd_P hr h2 g) (pa_cons pt pa_nil rfl) (star_of hs _)) b4 b3 (star_of hs _) rfl) l_isi
      · cases h
    · split at h
      · rename_i gn gp gargs gpos
        split at h
        · rename_i hg
          simp only [Bool.and_eq_true, Bool.or_eq_true, decide_eq_true_eq] at hg
          obtain ⟨g1, rfl, hf⟩ := hg
          obtain ⟨t1, t2, t3, t4⟩ := blt_of g g1
          split at h
          · rename_i a
            rw [Option.map_eq_some_iff] at h
            obtain ⟨ps, h1, rfl⟩ := h
            have st := compPs_star h1
            rcases hf with rfl | rfl
            · exact PE.imp (pe_sortedSet g.calm hu b1 b2 t1 t2 (st _ (by simp)) (snd_Ps hr g h1)) prim_of
            · exact PE.imp (pe_lenSet g.calm hu b1 b2 t1 t2 (st _ (by simp)) (snd_Ps hr g h1)) prim_of
          · cases h
        · split at h
          · rename_i hg
            simp only [Bool.and_eq_true, decide_eq_true_eq] at hg
            obtain ⟨g1, rfl, rfl⟩ := hg
            obtain ⟨t1, t2, t3, t4⟩ := blt_of g g1
            split at h
            · rename_i a b
              rw [Option.map_eq_some_iff] at h
              obtain ⟨ps, h1, rfl⟩ := h
              have st := compPs_star h1
              exact PE.imp (pe_dictZip g.calm b1 b2 t1 t2 (st _ (by simp)) (st _ (by simp)) (snd_Ps hr g h1)) prim_of
            · cases h
          simp only [Option.bind_eq_some_iff, Option.map_eq_some_iff] at h
          obtain ⟨b, h1, ps, h2, rfl⟩ := h
          exact bi_pe g h1 hb (snd_Ps hr g h2) (compPs_star h2)
      · simp only [Option.bind_eq_some_iff, Option.map_eq_some_iff] at h
        obtain ⟨b, h1, ps, h2, rfl⟩ := h
        exact bi_pe g h1 hb (snd_Ps hr g h2) (compPs_star h2)
  · split at h
    · rename_i hg
      simp only [Bool.and_eq_true] at hg
      obtain ⟨p1, p2, p3⟩ := plain_of hg.2
      simp only [Option.bind_eq_some_iff] at h
      obtain ⟨io, h1, as, h2, h⟩ := h
      have hn := (ite_some h).1
      replace h := Option.some.inj (ite_some h).2
      subst h
      obtain ⟨a, fd, ps, d1, d2, d3, d4⟩ := g.defs f io h1
      obtain ⟨s1, s2, s3⟩ := snd_Ar hr g h2
      have shape : ∀ env ts e, evArs as env = .ok ts e → IoAs io ts ∧ (lent ts).Nodup := fun env ts e q => by
        obtain ⟨t1, t2⟩ := s3 env ts e q
        exact ⟨t1, by rw [t2]; exact nodup_of hn⟩
      have pass : ∀ σ, PassesAt (CX X.prog X.w) X σ (fun cls d H => d = none ∧ ∃ c', mxOf c X.mg c' = some cls ∧ W c' σ H) := fun σ => passAt g.tk σ
      cases args with
      | nil =>
        have e0 : PA X [] (tArs W as) := s1
        refine PE.imp (pe_callS0 (E := fun σ cls d H => d = none ∧ ∃ c', mxOf c X.mg c' = some cls ∧ W c' σ H) d4 g.room (glo_of g hg.1) d1 d2 d3 pass p1) fun σ H Q q => ?_
        have q2 := l_call (mg := mxOf c X.mg) shape σ H Q q
        cases io with
        | nil =>
          simp only [compAr, Option.some.injEq] at h2
          subst h2
          exact ars_nil σ H _ q2
        | cons b io => cases b <;> simp [compAr] at h2
      | cons e es =>
        exact PE.imp (pe_callS d4 g.room (glo_of g hg.1) d1 d2 d3 pass s1 p1 (star_of (s2 e List.mem_cons_self) _) (stars_any fun x hx => s2 x (List.mem_cons_of_mem _ hx))) (l_call shape)
    · cases h
theorem few_one {a : Expr} {cpos : Pos} (ha : notStar a = true) : ((backTo cpos (starEach [a] X.env)).all (fun x => !x.1) && (backToKw cpos (keywordEach [] X.env)).all (fun x => x.1.isSome)
      && decide (([a] : List Expr).length + ([] : List Keyword).length + (if ([] : List Keyword).isEmpty then 0 else 1) < 30)) = true := by
  rw [star_of ha]
  rfl
theorem snd_meth (hr : SndE r) (g : Good X c W k) {o : Expr} {mn : Str} {args : List Expr} {m : G6.X} {apos pos : Pos} (hl : (apos.endLine == pos.line) = true) (h : compMeth r c o mn args = some m) : PE X (.Call (.Attribute o mn apos) args [] pos) (tX W m) := by
  have hu := g.room.units
  unfold compMeth at h
  split at h
  · rename_i hm
    subst hm
    rw [Option.bind_eq_some_iff] at h
    obtain ⟨p, h0, h⟩ := h
    have nc := (ite_some h0).1
    have po := snd_P hr (ite_some h0).2 g
    have base : attributeBase o "get" X.env (eval o X.env) = eval o X.env := by
      cases o with
      | Call f as ks ps => cases nc
      | _ => rfl
    split at h
    · rename_i kx
      rw [Option.map_eq_some_iff] at h
      obtain ⟨ps, h1, rfl⟩ := h
      obtain ⟨q, ps', q1, q2, rfl⟩ := mapO_cons h1
      cases q2
      refine PE.imp (PE.imp (pe_get1 hu (ite_some q1).1 po (snd_P hr (ite_some q1).2 g) base hl) (t' := tGet pGet1 (tPk W p) (tPks W [q])) ?_) l_get
      intro σ H Q z
      obtain ⟨g0, env, G, er, z⟩ := z
      refine ⟨g0, env, G, er, z.mono fun t e G' H' x er' z v hv => ?_⟩
      obtain ⟨z1, z2⟩ := z v hv
      refine ⟨z1, ?_⟩
      have z3 := pks_cons σ H' _ z2
      obtain ⟨g1, env1, G1, er1, z3⟩ := z3
      exact ⟨g1, env1, G1, er1, z3.mono fun t e G' H' x er' z v hv => pks_nil σ H' _ (z v hv)⟩
    · rename_i kx zx
      rw [Option.map_eq_some_iff] at h
      obtain ⟨ps, h1, rfl⟩ := h
      obtain ⟨q, ps', q1, q2, rfl⟩ := mapO_cons h1
      obtain ⟨q', ps'', q3, q4, rfl⟩ := mapO_cons q2
      cases q4
      refine PE.imp (PE.imp (pe_get2 hu (ite_some q1).1 (ite_some q3).1 po (snd_P hr (ite_some q1).2 g) (snd_P hr (ite_some q3).2 g) base hl) (t' := tGet pGet2 (tPk W p) (tPks W [q, q'])) ?_) l_get
      intro σ H Q z
      obtain ⟨g0, env, G, er, z⟩ := z
      refine ⟨g0, env, G, er, z.mono fun t e G' H' x er' z v hv => ?_⟩
      obtain ⟨z1, z2⟩ := z v hv
      refine ⟨z1, ?_⟩
      have z3 := pks_cons σ H' _ z2
      obtain ⟨g1, env1, G1, er1, z3⟩ := z3
      refine ⟨g1, env1, G1, er1, z3.mono fun t e G' H' x er' z v hv => ?_⟩
      have z4 := pks_cons σ H' _ (z v hv)
      obtain ⟨g2, env2, G2, er2, z4⟩ := z4
      exact ⟨g2, env2, G2, er2, z4.mono fun t e G' H' x er' z v hv => pks_nil σ H' _ (z v hv)⟩
    · cases h
  · split at h
    · rename_i x xp
      rw [Option.bind_eq_some_iff] at h
      obtain ⟨i, h1, h⟩ := h
      have po : PE X (.Name x xp) (tVar i) := slot_of g h1
      split at h
      · rename_i hm
        subst hm
        split at h
        · rename_i a
          have ha := (ite_some h).1
          replace h := (ite_some h).2
          rw [Option.map_eq_some_iff] at h
          obtain ⟨e, h2, rfl⟩ := h
          exact PE.imp (pe_bm F.plainAttrs_list F.slot_list_append F.type_list_append mt_append po (pa_cons (hr c a e h2 X W k g) pa_nil (star_of ha _)) rfl (few_one ha) hl (star_of ha _) rfl) l_append
        · cases h
      · split at h
        · rename_i hm
          subst hm
          split at h
          · rename_i a
            have ha := (ite_some h).1
            replace h := (ite_some h).2
            rw [Option.map_eq_some_iff] at h
            obtain ⟨e, h2, rfl⟩ := h
            exact PE.imp (pe_bm F.plainAttrs_list F.slot_list_extend F.type_list_extend mt_ext po (pa_cons (hr c a e h2 X W k g) pa_nil (star_of ha _)) rfl (few_one ha) hl (star_of ha _) rfl) l_extend
          · cases h
        · split at h
          · rename_i hm
            subst hm
            split at h
            · have h2 := Option.some.inj h
              subst h2
              exact PE.imp (pe_bm0 F.plainAttrs_list F.slot_list_pop F.type_list_pop mt_pop po rfl hl) l_pop0
            · rename_i a
              have ha := (ite_some h).1
              replace h := (ite_some h).2
              rw [Option.map_eq_some_iff] at h
              obtain ⟨e, h2, rfl⟩ := h
              exact PE.imp (pe_bm F.plainAttrs_list F.slot_list_pop F.type_list_pop mt_popAt po (pa_cons (snd_P hr h2 g) pa_nil (star_of ha _)) rfl (few_one ha) hl (star_of ha _) rfl) l_pop
            · cases h
          · cases h
    · cases h
/-! displays of dicts -/
theorem snd_KVs (hr : SndE r) (g : Good X c W k) {pos : Pos} : ∀ {ks : List (Option Expr)} {vs : List Expr} {ps : List (G6.X × G6.X)}, compKVs r c ks vs = some ps → PPs X pos ks vs (trsOf W ps) ∧ ks.all (·.isSome) = true ∧ ks.length = vs.length ∧ ps.length = ks.length
  | [], [], ps, h => by
    simp only [compKVs, Option.some.injEq] at h
    subst h
    exact ⟨pps_nil, rfl, rfl, rfl⟩
  | [], _ :: _, _, h => by simp [compKVs] at h
  | some k' :: ks, [], _, h => by simp [compKVs] at h
  | none :: ks, _, _, h => by simp [compKVs] at h
  | some a :: ks, b :: vs, ps, h => by
    simp only [compKVs, Option.bind_eq_some_iff] at h
    obtain ⟨m, h1, n, h2, ps', h3, h4⟩ := h
    have h5 := Option.some.inj h4
    subst h5
    obtain ⟨s1, s2, s3, s4⟩ := snd_KVs hr g h3
    exact ⟨pps_cons (hr c a m h1 X W k g) (hr c b n h2 X W k g) s1, by simpa using s2, by simp [s3], by simp [s4]⟩
theorem snd_step (hr : SndE r) : SndE (stepE r) := by
  intro c e m h X W k g
  have hu := g.room.units
  unfold stepE at h
  split at h
  · split at h
    · cases h; exact PE.imp pe_non (l_lit fun G => .non)
    · cases h; exact PE.imp pe_bl (l_lit fun G => .bl _)
    · cases h; exact PE.imp pe_int (l_lit fun G => .int _)
    · cases h; exact PE.imp pe_str (l_lit fun G => .str _)
    · cases h
  · rw [Option.map_eq_some_iff] at h
    obtain ⟨i, h1, rfl⟩ := h
    exact PE.imp (slot_of g h1) l_var
  · rename_i es x1 pos
    split at h
    · rename_i hz
      rw [Option.map_eq_some_iff] at h
      obtain ⟨ms, h1, rfl⟩ := h
      exact PE.imp (pe_tup (snd_Xs hr g h1)) (l_tup (by rw [mapO_len h1]; exact hz))
    · cases h
  · rename_i es pos
    split at h
    · rename_i hz
      rw [Option.map_eq_some_iff] at h
      obtain ⟨ms, h1, rfl⟩ := h
      exact PE.imp (pe_lst (snd_Xs hr g h1)) (l_lst (by rw [mapO_len h1]; exact hz))
    · cases h
  · rename_i a op b pos
    simp only [Option.bind_eq_some_iff, Option.map_eq_some_iff] at h
    obtain ⟨f, hf, p, hp, q, hq, rfl⟩ := h
    exact PE.imp (pe_op (opR_of hu hf) (snd_P hr hp g) (snd_P hr hq g)) prim2_of
  · rename_i op a pos
    split at h
    · rw [Option.map_eq_some_iff] at h
      obtain ⟨p, h1, rfl⟩ := h
      exact PE.imp (pe_notT (snd_P hr h1 g)) l_xnot
    · rw [Option.map_eq_some_iff] at h
      obtain ⟨p, h1, rfl⟩ := h
      exact PE.imp (pe_un un_pNeg (snd_P hr h1 g)) prim1_of
    · cases h
  · rename_i op es pos
    rw [Option.bind_eq_some_iff] at h
    obtain ⟨ms, h1, h2⟩ := h
    have all : ∀ (es : List Expr) (ms : List G6.X) (m : G6.X), mapO (r c) es = some ms → andAll ms = some m → PE X (.BoolOp .And es pos) (tX W m) := by
      intro es
      induction es with
      | nil => intro ms m h1 h2; cases h1; cases h2
      | cons a es ih =>
        intro ms m h1 h2
        obtain ⟨u, us, h3, h4, rfl⟩ := mapO_cons h1
        cases es with
        | nil =>
          cases h4
          cases h2
          exact pe_one (hr c a _ h3 X W k g)
        | cons b es =>
          obtain ⟨u2, us2, h5, h6, rfl⟩ := mapO_cons h4
          simp only [andAll, Option.map_eq_some_iff] at h2
          obtain ⟨v, h7, rfl⟩ := h2
          exact PE.imp (pe_and (hr c a _ h3 X W k g) (ih _ v h4 h7)) l_xand
    have any : ∀ (es : List Expr) (ms : List G6.X) (m : G6.X), mapO (r c) es = some ms → orAll ms = some m → PE X (.BoolOp .Or es pos) (tX W m) := by
      intro es
      induction es with
      | nil => intro ms m h1 h2; cases h1; cases h2
      | cons a es ih =>
        intro ms m h1 h2
        obtain ⟨u, us, h3, h4, rfl⟩ := mapO_cons h1
        cases es with
        | nil =>
          cases h4
          cases h2
          exact pe_one (hr c a _ h3 X W k g)
        | cons b es =>
          obtain ⟨u2, us2, h5, h6, rfl⟩ := mapO_cons h4
          simp only [orAll, Option.map_eq_some_iff] at h2
          obtain ⟨v, h7, rfl⟩ := h2
          exact PE.imp (pe_or (hr c a _ h3 X W k g) (ih _ v h4 h7)) l_xor
    cases op with
    | And => exact all es ms m h1 h2
    | Or => exact any es ms m h1 h2
  · rename_i t a b pos
    simp only [Option.bind_eq_some_iff, Option.map_eq_some_iff] at h
    obtain ⟨u, h1, x, h2, y, h3, rfl⟩ := h
    exact PE.imp (pe_ifExp (snd_T hr g 20 t u h1) (hr c a x h2 X W k g) (hr c b y h3 X W k g)) l_if
  · exact (snd_cmp hr g h).1
  · rename_i a ix pos
    split at h
    · rename_i lo hi p2
      rw [Option.bind_eq_some_iff] at h
      obtain ⟨p, h1, h⟩ := h
      have sl : SlR X (fun x lo hi H Q => rSlL X.K x lo hi H Q ∨ rSlA X.K x lo hi H Q) := SlR.or sl_list sl_tupA
      split at h
      · cases h
      · rename_i l
        rw [Option.map_eq_some_iff] at h
        obtain ⟨x, h2, rfl⟩ := h
        exact PE.imp (pe_slice sl (snd_P hr h1 g) (po_some (snd_P hr h2 g)) po_none) l_cut
      · rename_i l
        rw [Option.map_eq_some_iff] at h
        obtain ⟨x, h2, rfl⟩ := h
        exact PE.imp (pe_slice sl (snd_P hr h1 g) po_none (po_some (snd_P hr h2 g))) l_cut
      · rename_i l h'
        simp only [Option.bind_eq_some_iff, Option.map_eq_some_iff] at h
        obtain ⟨x, h2, y, h3, rfl⟩ := h
        exact PE.imp (pe_slice sl (snd_P hr h1 g) (po_some (snd_P hr h2 g)) (po_some (snd_P hr h3 g))) l_cut
    · rw [Option.map_eq_some_iff] at h
      obtain ⟨p, h1, rfl⟩ := h
      exact PE.imp (pe_rev (snd_P hr h1 g)) l_rev
    · cases h
    · have hs := (ite_some h).1
      replace h := (ite_some h).2
      simp only [Option.bind_eq_some_iff, Option.map_eq_some_iff] at h
      obtain ⟨p, hp, q, hq, rfl⟩ := h
      exact PE.imp (pe_ix (ix_pIx hu) (snd_P hr hp g) (snd_P hr hq g) (plainIx_of hs)) prim2_of
  · rename_i f args kws pos
    split at h
    · exact snd_call hr g h
    · exact snd_meth hr g (ite_some h).1 (ite_some h).2
    · cases h
  · exact (snd_lc hr g h).1
  · exact (snd_dc hr g h).1
  · rename_i ks vs pos
    split at h
    · rename_i hz
      rw [Option.map_eq_some_iff] at h
      obtain ⟨ps, h1, rfl⟩ := h
      obtain ⟨s1, s2, s3, s4⟩ := snd_KVs hr g (pos := pos) h1
      cases ks with
      | nil =>
        cases vs with
        | nil =>
          simp only [compKVs, Option.some.injEq] at h1
          subst h1
          exact PE.imp pe_dnewK l_dict0
        | cons _ _ => simp [compKVs] at h1
      | cons a b => exact PE.imp (pe_disp s1 s2 s3 (by simp) hz) (l_dict (by rw [s4]; exact hz))
    · cases h
  · cases h
theorem snd_E : ∀ n, SndE (compE n)
  | 0 => fun _ _ _ h => by cases h
  | n + 1 => snd_step (snd_E n)
end
end G6

namespace G6
open PySem PySem.Spec L2
abbrev SndS (rs : RS) : Prop := ∀ (c : SC) (st : Stmt) (m : S), rs c st = some m → ∀ (X : Cx) (W : Wx) (k : Nat), Good X c W k → PS X st (tS W c.ios m)
section
variable {re : RE} {rs : RS} {X : Cx} {c : SC} {W : Wx} {k : Nat}
theorem snd_Ss (hr : SndS rs) (g : Good X c W k) : ∀ {ss : List Stmt} {m : S}, compSs rs c ss = some m → PSs X ss (tS W c.ios m)
  | [], m, h => by
    simp only [compSs, Option.some.injEq] at h
    subst h
    exact PSs.imp pss_nil s_nil
  | [s], m, h => pss_one (hr c s m h X W k g)
  | s :: t :: ss, m, h => by
    simp only [compSs, Option.bind_eq_some_iff, Option.map_eq_some_iff] at h
    obtain ⟨a, h1, b, h2, rfl⟩ := h
    exact PSs.imp (pss_cons (hr c s a h1 X W k g) (snd_Ss hr g h2)) s_seq
/-! one name -/
theorem swap_no {e : Expr} (h : isComp e = false) (t : Option Expr) (l : Nat) (env : Env) : swapsWith e t l env = pure false := by
  cases e <;> first | rfl | cases h
theorem swap_sole {e : Expr} (h : isComp e = false) {t : Expr} {l : Nat} {env : Env} : swapsWithSole [t] e l env = pure false := swap_no h _ _ _
theorem swap_lc {elt : Expr} {gens : List Comprehension} {scope : Scope} {pos py : Pos} {y : Str} {l : Nat} {env : Env} : ∃ b, swapsWith (.ListComp elt gens scope pos) (some (.Name y py)) l env = pure b ∧ (b = true → env.scope.names.lookup y = some .local) := by
  refine ⟨_, rfl, fun h => ?_⟩
  simp only [Bool.and_eq_true, beq_iff_eq] at h
  exact h.1.1.2
theorem swap_dc {kx vx : Expr} {gens : List Comprehension} {scope : Scope} {pos py : Pos} {y : Str} {l : Nat} {env : Env} : ∃ b, swapsWith (.DictComp kx vx gens scope pos) (some (.Name y py)) l env = pure b ∧ (b = true → env.scope.names.lookup y = some .local) := by
  refine ⟨_, rfl, fun h => ?_⟩
  simp only [Bool.and_eq_true, beq_iff_eq] at h
  exact h.1.1.2
theorem snd_name {n : Nat} (g : Good X c W k) {x : Str} {xp pos : Pos} {e : Expr} {i : Nat} {m : G6.X} (h1 : storeOf c x = some i) (h2 : compE n c e = some m) : PS X (.Assign [.Name x xp] e pos) (tS W c.ios (sAsg i m)) := by
  obtain ⟨s1, s2, s3, s4⟩ := store_of g h1
  have pe := snd_E n c e m h2 X W k g
  refine PS.imp (t := tAsg (tX W m) (gName i)) ?_ (s_asg s4)
  cases n with
  | zero => cases h2
  | succ n =>
    cases e with
    | ListComp elt gens scope p =>
      obtain ⟨b, hb, hl⟩ := swap_lc (elt := elt) (gens := gens) (scope := scope) (pos := p) (py := xp) (y := x) (l := pos.line) (env := X.env)
      cases b with
      | false => exact ps_set g.nd s1 s2 pe hb s3
      | true => exact (snd_lc (snd_E n) g h2).2 i x xp pos s1 (hl rfl) hb
    | DictComp kx vx gens scope p =>
      obtain ⟨b, hb, hl⟩ := swap_dc (kx := kx) (vx := vx) (gens := gens) (scope := scope) (pos := p) (py := xp) (y := x) (l := pos.line) (env := X.env)
      cases b with
      | false => exact ps_set g.nd s1 s2 pe hb s3
      | true => exact (snd_dc (snd_E n) g h2).2 i x xp pos s1 (hl rfl) hb
    | SetComp a b d p => cases h2
    | _ => exact ps_set g.nd s1 s2 pe (swap_no rfl _ _ _) s3
/-! several names -/
theorem names_of : ∀ {ts : List Expr} {xs : List Str}, namesOf ts = some xs → ∃ ps : List Pos, ts = (xs.zip ps).map (fun q => Expr.Name q.1 q.2) ∧ ps.length = xs.length
  | [], xs, h => by
    simp only [namesOf, Option.some.injEq] at h
    subst h
    exact ⟨[], rfl, rfl⟩
  | t :: ts, xs, h => by
    cases t with
    | Name x p =>
      simp only [namesOf, Option.map_eq_some_iff] at h
      obtain ⟨ys, h1, rfl⟩ := h
      obtain ⟨ps, h2, h3⟩ := names_of h1
      exact ⟨p :: ps, by rw [h2]; rfl, by simp [h3]⟩
    | _ => simp [namesOf] at h
theorem fm_names {f : Expr → Option Str} {L : Str → Prop} (hf : ∀ x p y, f (.Name x p) = some y → y = x ∧ L x) : ∀ (xs : List Str) (ps : List Pos), ps.length = xs.length → (((xs.zip ps).map (fun q => Expr.Name q.1 q.2)).filterMap f).length = xs.length →
    ((xs.zip ps).map (fun q => Expr.Name q.1 q.2)).filterMap f = xs ∧ ∀ x ∈ xs, L x
  | [], _, _, _ => ⟨rfl, by simp⟩
  | x :: xs, [], h, _ => by simp at h
  | x :: xs, p :: ps, h, h2 => by
    have hl : ps.length = xs.length := by simpa using h
    have e0 : ((x :: xs).zip (p :: ps)).map (fun q => Expr.Name q.1 q.2) = Expr.Name x p :: (xs.zip ps).map (fun q => Expr.Name q.1 q.2) := rfl
    rw [e0] at h2 ⊢
    cases q : f (.Name x p) with
    | none =>
      rw [List.filterMap_cons_none q] at h2
      have := List.length_filterMap_le f ((xs.zip ps).map (fun q => Expr.Name q.1 q.2))
      simp [hl] at this h2
      omega
    | some y =>
      rw [List.filterMap_cons_some q] at h2 ⊢
      obtain ⟨rfl, hL⟩ := hf x p y q
      obtain ⟨i1, i2⟩ := fm_names hf xs ps hl (by simpa using h2)
      refine ⟨by rw [i1], fun z hz => ?_⟩
      rcases List.mem_cons.mp hz with rfl | hz
      · exact hL
      · exact i2 z hz
theorem swapped_of {xs : List Str} {ps : List Pos} {es : List Expr} {kt k2 : Nat} {pt pt2 : Pos} {env : Env} (hl : ps.length = xs.length) (hg : (es.all (foldedForSure 8) || !es.all (constantsAlone 8)) = true) :
    swappedStores [.Tuple ((xs.zip ps).map (fun q => Expr.Name q.1 q.2)) kt pt] (.Tuple es k2 pt2) env = pure none ∨
    (swappedStores [.Tuple ((xs.zip ps).map (fun q => Expr.Name q.1 q.2)) kt pt] (.Tuple es k2 pt2) env = pure (some xs) ∧ (xs.length = 2 ∨ xs.length = 3) ∧ ∀ x ∈ xs, env.scope.names.lookup x = some .local) := by
  unfold swappedStores
  dsimp only
  have hlen : ((xs.zip ps).map (fun q => Expr.Name q.1 q.2)).length = xs.length := by simp [hl]
  split
  · exact .inl rfl
  · rename_i c1
    split
    · exact .inl rfl
    · split
      · exact .inl rfl
      · rename_i c2 c3
        split
        · exact .inl rfl
        · rename_i c4
          split
          · rename_i c5
            exfalso
            rw [c5] at hg
            simp only [Bool.not_true, Bool.or_false] at hg
            exact c4 hg
          · refine .inr ?_
            have n1 : ∀ {A B : Bool}, ¬ (A || B) = true → A = false ∧ B = false := fun {A B} h => by cases A <;> cases B <;> simp_all
            obtain ⟨d1, d2⟩ := n1 c3
            have d3 := bne_eq_false_iff_eq.mp d1
            rw [hlen] at d3
            obtain ⟨e1, e2⟩ := fm_names (L := fun x => env.scope.names.lookup x = some .local) (fun x p y h => by
              dsimp only at h
              split at h
              · rename_i hc
                simp only [Bool.and_eq_true, beq_iff_eq] at hc
                exact ⟨(Option.some.inj h).symm, hc.1⟩
              · cases h) xs ps hl d3
            refine ⟨by rw [e1], ?_, e2⟩
            obtain ⟨f1, f2⟩ := n1 c1
            obtain ⟨f3, f4⟩ := n1 (by rw [f1]; exact Bool.false_ne_true)
            rw [hlen] at f3
            by_cases z : xs.length = 2
            · exact .inl z
            · exact .inr ((by simpa using f3 : ¬xs.length = 2 → xs.length = 3) z)
/-- from any weaker reading -/
theorem snd_par {n : Nat} (g : Good X c W k) {ts es : List Expr} {kt k2 : Nat} {pt pt2 pos : Pos} {xs : List Str} {is : List Nat} {ms : List G6.X} (h1 : namesOf ts = some xs) (h2 : mapO (storeOf c) xs = some is) (hn : nodupB is = true) (hl : is.length = es.length) (hz : es.length ≤ 1000) (hg : (es.all (foldedForSure 8) || !es.all (constantsAlone 8)) = true) (h3 : compXs (compE n) c es = some ms) :
    PS X (.Assign [.Tuple ts kt pt] (.Tuple es k2 pt2) pos) (tS W c.ios (sPar is ms)) := by
  obtain ⟨ps, rfl, hp⟩ := names_of h1
  have pa := snd_Fs (snd_E n) g h3
  have lm : ms.length = es.length := mapO_len h3
  -- the slots
  have sl : ∀ (xs : List Str) (is : List Nat), mapO (storeOf c) xs = some is → is.length = xs.length ∧ (∀ i ∈ is, i ∉ c.ios) ∧ ∀ ps : List Pos, ps.length = xs.length → PGs X ((xs.zip ps).map (fun q => Expr.Name q.1 q.2)) (gTgs X.K (is.map .nm)) := by
    intro xs
    induction xs with
    | nil =>
      intro is h
      cases h
      exact ⟨rfl, by simp, fun ps _ => pgs_nil⟩
    | cons x xs ih =>
      intro is h
      obtain ⟨i, is', a1, a2, rfl⟩ := mapO_cons h
      obtain ⟨b1, b2, b3⟩ := ih is' a2
      obtain ⟨s1, s2, s3, s4⟩ := store_of g a1
      refine ⟨by simp [b1], fun j hj => ?_, fun ps hps => ?_⟩
      · rcases List.mem_cons.mp hj with rfl | hj
        · exact s4
        · exact b2 j hj
      · cases ps with
        | nil => simp at hps
        | cons p ps => exact pgs_cons (pg_name g.nd s1 s2 s3) (b3 ps (by simpa using hps)) rfl
  obtain ⟨l1, l2, l3⟩ := sl xs is h2
  have pgs := l3 ps hp
  have mono := fun (σ : L2.St) (H : Hp) => fs_mono (W := W) (ms := ms) σ H
  refine PS.imp (t := tParN is (tFs W ms)) ?_ (s_par l2 (by rw [lm, hl]) (by rw [lm]; exact hz))
  have star : ∀ e ∈ (xs.zip ps).map (fun q => Expr.Name q.1 q.2), notStar e = true := fun e he => by
    obtain ⟨q, _, rfl⟩ := List.mem_map.mp he
    rfl
  obtain ⟨as1, as2, as3⟩ := assign_each (env := X.env) star
  rcases swapped_of (xs := xs) (ps := ps) (es := es) (kt := kt) (k2 := k2) (pt := pt) (pt2 := pt2) (env := X.env) hp hg with hw | ⟨hw, hc, hlo⟩
  · refine PS.imp (ps_asg (pe_tup pa) (pg_tup (n := (is.map Tg.nm).length) g.calm pgs (by rw [as2]; simp [hp, l1]) as3) rfl hw rfl) fun E σ H q => ?_
    exact par_asg E σ H (mono σ H) q
  · rcases hc with hc | hc
    · match xs, ps, hc, hp, h2, hlo, hw, pa, pgs with
      | [x, y], [px, py], _, _, h2, hlo, hw, pa, pgs =>
        obtain ⟨i, is1, a1, a2, rfl⟩ := mapO_cons h2
        obtain ⟨j, is2, a3, a4, rfl⟩ := mapO_cons a2
        cases a4
        match es, hl, hw, pa with
        | [a, b], _, hw, pa =>
          have nd := nodup_of hn
          have hij : i ≠ j := by
            intro z
            subst z
            simp at nd
          obtain ⟨s1, _⟩ := store_of g a1
          obtain ⟨s2, _⟩ := store_of g a3
          exact PS.imp (ps_par g.calm g.nd s1 s2 hij (hlo x (by simp)) (hlo y (by simp)) pa hw rfl) fun E σ H q => par_two E σ H (mono σ H) q
    · match xs, ps, hc, hp, h2, hlo, hw, pa, pgs with
      | [x, y, z], [px, py, pz], _, _, h2, hlo, hw, pa, pgs =>
        obtain ⟨i, is1, a1, a2, rfl⟩ := mapO_cons h2
        obtain ⟨j, is2, a3, a4, rfl⟩ := mapO_cons a2
        obtain ⟨l, is3, a5, a6, rfl⟩ := mapO_cons a4
        cases a6
        match es, hl, hw, pa with
        | [a, b, d], _, hw, pa =>
          have nd := nodup_of hn
          simp only [List.nodup_cons, List.mem_cons, List.not_mem_nil, or_false, not_or] at nd
          obtain ⟨s1, _⟩ := store_of g a1
          obtain ⟨s2, _⟩ := store_of g a3
          obtain ⟨s3, _⟩ := store_of g a5
          exact PS.imp (ps_par3 g.calm g.nd s1 s2 s3 nd.1.1 nd.1.2 nd.2.1 (hlo x (by simp)) (hlo y (by simp)) (hlo z (by simp)) pa hw rfl) fun E σ H q => par_three E σ H (mono σ H) q
/-! raise, try -/
theorem raises_of (g : Good X c W k) {x : Str} (hx : c.ex x = true) : ∃ C, X.mg x = some (.ref C) ∧ mxOf c X.mg x = some (.ref C) ∧ PySem.W.excIn X.K C He.veBase "ValueError.__new__" = true ∧ PySem.W.keepIn X.K (.ref C) = true ∧ Raises X (.ref C) := by
  obtain ⟨C, e1, e2, e3, e4, e5⟩ := g.exs x hx
  exact ⟨C, e1, by unfold mxOf; rw [if_pos hx]; exact e1, e2, e3, raises_own e4 e5⟩
theorem try_good (g : Good X c W k) {W' : Wx} {Wm : WX} {pn : List (Addr × Obj)} {xe : Value → Shared → Prop} (hl : c.loops = true) (tk : Takes (X.tr pn xe) Wm) (po : PassesOwn (model X.prog X.w) X.A X.env xe) (hw : ∀ cls d σ H, wf (mxOf c X.mg) W' cls d σ H → Wm cls d σ H) : Good (X.tr pn xe) c W' k where
  hN := g.hN
  nd := g.nd
  sc := g.sc
  calm := g.calm
  fnB := g.fnB
  bl := g.bl
  room := g.room
  defs := g.defs
  exs := g.exs
  exm := g.exm
  tk := tk.imp hw
  po := fun _ => ⟨po, (g.po hl).2.1, (g.po hl).2.2⟩
theorem lit_of {q : Const} {d : D} (h : litOf q = some d) : isLit d = true ∧ ∀ {Y : Cx} {j : Nat} {p : Pos}, PE Y (.Constant q j p) (tC (litV d)) := by
  cases q with
  | none => cases h; exact ⟨rfl, pe_non⟩
  | bool b => cases h; exact ⟨rfl, pe_bl⟩
  | int i => cases h; exact ⟨rfl, pe_int⟩
  | str s => cases h; exact ⟨rfl, pe_str⟩
  | _ => cases h
theorem snd_Hs (g : Good X c W k) : ∀ {hs : List ExceptHandler} {l : List (List Str × D)}, compHs c hs = some l → ∃ l2, HdsOk X hs l2 ∧ HsR X.K (mxOf c X.mg) l l2
  | [], l, h => by
    simp only [compHs, Option.some.injEq] at h
    subst h
    exact ⟨[], .nil, .nil⟩
  | hd :: hs, l, h => by
    unfold compHs at h
    split at h
    · rename_i e; cases e
    · rename_i x xp q1 q2 q3 rp pos r e
      cases e
      have hc := (ite_some h).1
      replace h := (ite_some h).2
      simp only [Bool.and_eq_true] at hc
      simp only [Option.bind_eq_some_iff] at h
      obtain ⟨d, h1, l', h2, h3⟩ := h
      have h4 := Option.some.inj h3
      subst h4
      obtain ⟨l2, k1, k2⟩ := snd_Hs g h2
      obtain ⟨C, m1, m2, _⟩ := raises_of g hc.2
      obtain ⟨p1, p2, p3⟩ := plain_of hc.1.2
      obtain ⟨d1, d2⟩ := lit_of h1
      refine ⟨(.ref C, fun _ _ _ => tRet (tC (litV d))) :: l2, .cons ⟨glo_of g hc.1.1, p1, .inl m1⟩ (fun a oe cls dd pn _ _ => pss_one (ps_ret d2)) k1, .cons d1 (fun c' cls hm => ?_) k2⟩
      unfold mxOf at hm
      split at hm
      · rename_i hcx
        exact g.exm c' x cls (.ref C) hcx hc.2 hm m1
      · cases hm
    · cases h
theorem pss_body {ss : List Stmt} {b : S} (hr : SndS rs) (g : Good X c W k) (hl : c.loops = true) (h : compSs rs c ss = some b) (Wm : WX) (pn : List (Addr × Obj)) (xe : Value → Shared → Prop) (tk : Takes (X.tr pn xe) Wm) (po : PassesOwn (model X.prog X.w) X.A X.env xe) :
    PSs (X.tr pn xe) ss (tBody (mxOf c X.mg) c.ios b Wm) := ⟨fun pins s σ H E I q => by
  obtain ⟨W', hw, q⟩ := q
  exact (snd_Ss hr (try_good g hl tk po hw) h).run pins s σ H E I q⟩
theorem snd_stepS {n : Nat} (hr : SndS rs) : SndS (stepS (compE n) rs) := by
  intro c st m h X W k g
  have hu := g.room.units
  have he := snd_E n
  unfold stepS at h
  split at h
  · cases h; exact PS.imp ps_retN s_retN
  · rw [Option.map_eq_some_iff] at h
    obtain ⟨a, h1, rfl⟩ := h
    exact PS.imp (ps_ret (he c _ a h1 X W k g)) s_ret
  · rename_i e pos
    split at h
    · cases h
    · rename_i hc
      rw [Option.map_eq_some_iff] at h
      obtain ⟨a, h1, rfl⟩ := h
      exact PS.imp (ps_expr (he c _ a h1 X W k g) (swap_no (by simpa using hc) _ _ _)) s_expr
  · cases h; exact PS.imp ps_pass s_nil
  · rename_i t a b pos
    simp only [Option.bind_eq_some_iff, Option.map_eq_some_iff] at h
    obtain ⟨u, h1, x, h2, y, h3, rfl⟩ := h
    exact PS.imp (ps_if (snd_T he g 20 t u h1) (snd_Ss hr g h2) (snd_Ss hr g h3)) s_if
  · rename_i tg it body pos
    split at h
    · cases h
    · rename_i hl
      have hl : c.loops = true := by simpa using hl
      simp only [Option.bind_eq_some_iff, Option.map_eq_some_iff] at h
      obtain ⟨t, h1, i, h2, b, h3, rfl⟩ := h
      obtain ⟨t1, t2, t3⟩ := snd_Tg g 8 tg t h1
      exact PS.imp (ps_for (g.po hl).1 g.calm (snd_It he g (tup_ok h1) h2) t1 (snd_Ss hr g h3) (compIt_fold h2 X.env)) (s_for t2)
  · rename_i t body pos
    split at h
    · cases h
    · rename_i hl
      have hl : c.loops = true := by simpa using hl
      simp only [Option.bind_eq_some_iff, Option.map_eq_some_iff] at h
      obtain ⟨u, h1, b, h2, rfl⟩ := h
      exact PS.imp (ps_while (g.po hl).1 (snd_T he g 20 t u h1) (snd_Ss hr g h2)) s_while
  · rename_i tg e pos
    split at h
    · rename_i x xp
      simp only [Option.bind_eq_some_iff, Option.map_eq_some_iff] at h
      obtain ⟨i, h1, a, h2, rfl⟩ := h
      exact snd_name g h1 h2
    · rename_i ts kt pt
      split at h
      · rename_i es k2 pt2
        simp only [Option.bind_eq_some_iff] at h
        obtain ⟨xs, h1, is, h2, h⟩ := h
        have hc := (ite_some h).1
        replace h := (ite_some h).2
        simp only [Bool.and_eq_true, beq_iff_eq, decide_eq_true_eq] at hc
        rw [Option.map_eq_some_iff] at h
        obtain ⟨ms, h3, rfl⟩ := h
        exact snd_par g h1 h2 hc.1 hc.2.1 hc.2.2.1 hc.2.2.2 h3
      · rename_i ne
        split at h
        · cases h
        · rename_i hcomp
          simp only [Option.bind_eq_some_iff, Option.map_eq_some_iff] at h
          obtain ⟨t, h1, a, h2, rfl⟩ := h
          obtain ⟨t1, t2, t3⟩ := snd_Tg g 8 _ t h1
          refine PS.imp (ps_asg (he c _ a h2 X W k g) t1 (swap_sole (by simpa using hcomp)) ?_ rfl) (s_unp t2)
          cases e <;> first | rfl | exact (ne _ _ _ rfl).elim
    · rename_i x xp kx sp
      have hc := (ite_some h).1
      replace h := (ite_some h).2
      simp only [Bool.and_eq_true, Bool.not_eq_true'] at hc
      simp only [Option.bind_eq_some_iff, Option.map_eq_some_iff] at h
      obtain ⟨i, h1, p, h2, a, h3, rfl⟩ := h
      have hsub : PG X (.Subscript (.Name x xp) kx sp) (gSub (tVar i) (tPk W p) rPut) := pg_sub (slot_of g h1) (snd_P he h2 g) (set_put (by omega)) (by
        intro v
        cases kx <;> first | rfl | cases hc.1)
      exact PS.imp (ps_asg (he c _ a h3 X W k g) hsub (swap_sole hc.2) (by cases e <;> rfl) rfl) s_putI
    · cases h
  · rename_i x xp e pos
    simp only [Option.bind_eq_some_iff, Option.map_eq_some_iff] at h
    obtain ⟨i, h1, a, h2, rfl⟩ := h
    obtain ⟨s1, s2, s3, s4⟩ := store_of g h1
    exact PS.imp (ps_aug g.nd s1 s2 (he c _ a h2 X W k g) ip_add s3) (s_aug s4)
  · rename_i x xp cp pos
    have hc := (ite_some h).1
    replace h := Option.some.inj (ite_some h).2
    subst h
    simp only [Bool.and_eq_true] at hc
    obtain ⟨C, m1, m2, m3, m4, m5⟩ := raises_of g hc.2
    obtain ⟨p1, p2, p3⟩ := plain_of hc.1.2
    exact PS.imp (ps_raise g.calm g.tk (pmk_own0 PySem.F.excBase_ValueError m3 m1 m4 m5 (glo_of g hc.1.1) p1)) (s_raise m2)
  · rename_i body h₀ hds pos
    split at h
    · cases h
    · rename_i hl
      have hl : c.loops = true := by simpa using hl
      simp only [Option.bind_eq_some_iff, Option.map_eq_some_iff] at h
      obtain ⟨b, h1, hh, h2, rfl⟩ := h
      obtain ⟨l2, k1, k2⟩ := snd_Hs g h2
      exact PS.imp (ps_try_many (g.po hl).2.1 (g.po hl).2.2 g.tk (fun Wm pn xe tk po => pss_body hr g hl h1 Wm pn xe tk po) k1) fun E σ H q => s_try k2 E σ H q
  · cases h
theorem snd_S {n : Nat} : ∀ j, SndS (compS n j)
  | 0 => fun _ _ _ h => by cases h
  | j + 1 => snd_stepS (snd_S j)
end
end G6

namespace G6
open PySem PySem.Spec L2
/-! ### a def's body -/
/-- the slots and the objects that are lent -/
inductive IoP : Nat → List Bool → List V → List Addr → List (Nat × Addr) → Prop
  | nil {n : Nat} : IoP n [] [] [] []
  | v {n : Nat} {io : List Bool} {v : V} {vs : List V} {as : List Addr} {ps : List (Nat × Addr)} : IoP (n + 1) io vs as ps → IoP n (false :: io) (v :: vs) as ps
  | io {n : Nat} {io : List Bool} {a : Addr} {vs : List V} {as : List Addr} {ps : List (Nat × Addr)} : IoP (n + 1) io vs as ps → IoP n (true :: io) (.ref a :: vs) (a :: as) ((n, a) :: ps)
theorem ioP_of {G H F : Hp} : ∀ {io : List Bool} {vs : List V} {ds : List D} {as : List Addr} (n : Nat), ArgsR G H F io vs ds as → ∃ ps, IoP n io vs as ps
  | _, _, _, _, n, .nil => ⟨[], .nil⟩
  | _, _, _, _, n, .v _ r => let ⟨ps, h⟩ := ioP_of (n + 1) r; ⟨ps, .v h⟩
  | _, _, _, _, n, .io _ _ _ r => let ⟨ps, h⟩ := ioP_of (n + 1) r; ⟨_, .io h⟩
theorem IoP.slots : ∀ {n : Nat} {io : List Bool} {vs : List V} {as : List Addr} {ps : List (Nat × Addr)}, IoP n io vs as ps → ps.map (·.1) = ioSlots n io ∧ ps.map (·.2) = as
  | _, _, _, _, _, .nil => ⟨rfl, rfl⟩
  | _, _, _, _, _, .v r => r.slots
  | _, _, _, _, _, .io r => by
    obtain ⟨h1, h2⟩ := r.slots
    exact ⟨by simp [ioSlots, h1], by simp [h2]⟩
theorem IoP.get : ∀ {n : Nat} {io : List Bool} {vs : List V} {as : List Addr} {ps : List (Nat × Addr)}, IoP n io vs as ps → ∀ p ∈ ps, n ≤ p.1 ∧ vs[p.1 - n]? = some (V.ref p.2)
  | _, _, _, _, _, .nil, p, hp => by cases hp
  | n, _, _, _, _, .v r, p, hp => by
    obtain ⟨h1, h2⟩ := r.get p hp
    refine ⟨by omega, ?_⟩
    have e : p.1 - n = (p.1 - (n + 1)) + 1 := by omega
    rw [e]
    exact h2
  | n, _, _, _, _, .io r, p, hp => by
    rcases List.mem_cons.mp hp with rfl | hp
    · exact ⟨Nat.le_refl _, by simp⟩
    · obtain ⟨h1, h2⟩ := r.get p hp
      refine ⟨by omega, ?_⟩
      have e : p.1 - n = (p.1 - (n + 1)) + 1 := by omega
      rw [e]
      exact h2
/-- the arguments one by one -/
theorem args_at {G H F : Hp} : ∀ {io : List Bool} {vs : List V} {ds : List D} {as : List Addr}, ArgsR G H F io vs ds as → ∀ (i : Nat) (b : Bool) (d : D), (io.zip ds)[i]? = some (b, d) →
    ∃ v, vs[i]? = some v ∧ (b = false → Rp G v d) ∧ (b = true → ∃ a, v = .ref a ∧ Ow G H a d ∧ F a = none ∧ a ∈ as)
  | _, _, _, _, .nil, i, b, d, h => by simp at h
  | _, _, _, _, .v r t, 0, b, d, h => by
    simp only [List.zip_cons_cons, List.getElem?_cons_zero, Option.some.injEq, Prod.mk.injEq] at h
    obtain ⟨rfl, rfl⟩ := h
    exact ⟨_, rfl, fun _ => r, fun z => by cases z⟩
  | _, _, _, _, .v r t, i + 1, b, d, h => by
    simp only [List.zip_cons_cons, List.getElem?_cons_succ] at h ⊢
    exact args_at t i b d h
  | _, _, _, _, .io o f n t, 0, b, d, h => by
    simp only [List.zip_cons_cons, List.getElem?_cons_zero, Option.some.injEq, Prod.mk.injEq] at h
    obtain ⟨rfl, rfl⟩ := h
    exact ⟨_, rfl, (fun z => nomatch z), fun _ => ⟨_, rfl, o, f, List.mem_cons_self⟩⟩
  | _, _, _, _, .io o f n t, i + 1, b, d, h => by
    simp only [List.zip_cons_cons, List.getElem?_cons_succ] at h ⊢
    obtain ⟨v, h1, h2, h3⟩ := args_at t i b d h
    refine ⟨v, h1, h2, fun hb => ?_⟩
    obtain ⟨a, e1, e2, e3, e4⟩ := h3 hb
    exact ⟨a, e1, e2, e3, List.mem_cons_of_mem _ e4⟩
/-- lent objects are apart -/
theorem args_apart {G H F : Hp} : ∀ {io : List Bool} {vs : List V} {ds : List D} {as : List Addr}, ArgsR G H F io vs ds as → ∀ (i j : Nat) (d e : D) (v : V), (io.zip ds)[i]? = some (true, d) → (io.zip ds)[j]? = some (true, e) → vs[i]? = some v → vs[j]? = some v → i = j
  | _, _, _, _, .nil, i, j, d, e, v, h, _, _, _ => by simp at h
  | _, _, _, _, .v r t, 0, j, d, e, v, h, _, _, _ => by simp at h
  | _, _, _, _, .v r t, i + 1, 0, d, e, v, _, h, _, _ => by simp at h
  | _, _, _, _, .v r t, i + 1, j + 1, d, e, v, h1, h2, h3, h4 => by
    simp only [List.zip_cons_cons, List.getElem?_cons_succ] at h1 h2 h3 h4
    rw [args_apart t i j d e v h1 h2 h3 h4]
  | _, _, _, _, .io o f n t, 0, 0, d, e, v, _, _, _, _ => rfl
  | _, _, _, _, .io o f n t, 0, j + 1, d, e, v, h1, h2, h3, h4 => by
    exfalso
    simp only [List.zip_cons_cons, List.getElem?_cons_succ, List.getElem?_cons_zero, Option.some.injEq] at h1 h2 h3 h4
    obtain ⟨w, q1, _, q2⟩ := args_at t j true e h2
    obtain ⟨a, e1, _, _, e4⟩ := q2 rfl
    rw [h4] at q1
    cases q1
    rw [e1] at h3
    cases h3
    exact n e4
  | _, _, _, _, .io o f n t, i + 1, 0, d, e, v, h1, h2, h3, h4 => by
    exfalso
    simp only [List.zip_cons_cons, List.getElem?_cons_succ, List.getElem?_cons_zero, Option.some.injEq] at h1 h2 h3 h4
    obtain ⟨w, q1, _, q2⟩ := args_at t i true d h1
    obtain ⟨a, e1, _, _, e4⟩ := q2 rfl
    rw [h3] at q1
    cases q1
    rw [e1] at h4
    cases h4
    exact n e4
  | _, _, _, _, .io o f n t, i + 1, j + 1, d, e, v, h1, h2, h3, h4 => by
    simp only [List.zip_cons_cons, List.getElem?_cons_succ] at h1 h2 h3 h4
    rw [args_apart t i j d e v h1 h2 h3 h4]
theorem start_get {n : Nat} {io : List Bool} {ds : List D} {i : Nat} {b : Bool} {d : D} (h : (startE n io ds)[i]? = some (some (b, d))) : (io.zip ds)[i]? = some (b, d) := by
  unfold startE at h
  rcases Nat.lt_or_ge i (io.zip ds).length with hl | hl
  · rw [List.getElem?_append_left (by simpa using hl), List.getElem?_map] at h
    rw [Option.map_eq_some_iff] at h
    obtain ⟨p, h1, h2⟩ := h
    rw [h1]
    cases h2
    rfl
  · rw [List.getElem?_append_right (by simpa using hl)] at h
    rw [List.getElem?_replicate] at h
    split at h <;> cases h
theorem startV_get {N : List Str} {vs : List V} {i : Nat} {v : V} (h : vs[i]? = some v) : (start N vs)[i]? = some (some v) := by
  unfold L2.start
  have hl := get_lt h
  rw [List.getElem?_append_left (by simpa using hl), List.getElem?_map, h]
  rfl
theorem startV_back {N : List Str} {vs : List V} {i : Nat} {v : V} (h : (start N vs)[i]? = some (some v)) : vs[i]? = some v := by
  unfold L2.start at h
  rcases Nat.lt_or_ge i vs.length with hl | hl
  · rw [List.getElem?_append_left (by simpa using hl), List.getElem?_map] at h
    rw [Option.map_eq_some_iff] at h
    obtain ⟨p, h1, h2⟩ := h
    cases h2
    exact h1
  · rw [List.getElem?_append_right (by simpa using hl)] at h
    rw [List.getElem?_replicate] at h
    split at h <;> cases h
theorem er_start {G H F : Hp} {io : List Bool} {vs : List V} {ds : List D} {as : List Addr} {ps : List (Nat × Addr)} {N : List Str} (fT : ∀ a ys, F a ≠ some (.tup ys)) (kp : Keeps F G H) (ar : ArgsR G H F io vs ds as) (ip : IoP 0 io vs as ps) :
    Er ⟨F, ps, fT⟩ (startE N.length io ds) G (start N vs) H := by
  obtain ⟨l1, l2⟩ := ar.len
  refine ⟨kp.1, kp.2, ?_, fun i b d h => ?_, fun i j d e v h1 h2 h3 h4 => ?_, fun p hp => ?_⟩
  · unfold startE L2.start
    simp only [List.length_append, List.length_map, List.length_zip, List.length_replicate, l1, l2, Nat.min_self]
  · obtain ⟨v, q1, q2, q3⟩ := args_at ar i b d (start_get h)
    refine ⟨v, startV_get q1, q2, fun hb => ?_⟩
    obtain ⟨a, e1, e2, e3, _⟩ := q3 hb
    exact ⟨a, e1, e2, e3⟩
  · exact args_apart ar i j d e v (start_get h1) (start_get h2) (startV_back h3) (startV_back h4)
  · obtain ⟨_, h⟩ := ip.get p hp
    exact startV_get h
theorem outs_of {g : Gh} {e : En} {G H : Hp} {σ : L2.St} (er : Er g e G σ H) : ∀ {ps : List (Nat × Addr)} {os : List D}, (∀ p ∈ ps, σ[p.1]? = some (some (V.ref p.2))) → outsOf e (ps.map (·.1)) = some os → OutsR G H (ps.map (·.2)) os ∧ ∀ p ∈ ps, ∃ d, e[p.1]? = some (some (true, d))
  | [], os, _, h => by
    simp only [List.map_nil, outsOf, Option.some.injEq] at h
    subst h
    exact ⟨.nil, by simp⟩
  | p :: ps, os, hs, h => by
    simp only [List.map_cons, outsOf] at h
    split at h
    · rename_i d ds q1 q2
      cases h
      obtain ⟨i1, i2⟩ := outs_of er (fun x hx => hs x (List.mem_cons_of_mem _ hx)) q2
      obtain ⟨v, z1, _, z3⟩ := er.sl p.1 true d q1
      obtain ⟨a, rfl, ow, _⟩ := z3 rfl
      rw [hs p List.mem_cons_self] at z1
      cases z1
      refine ⟨.cons ow i1, fun x hx => ?_⟩
      rcases List.mem_cons.mp hx with rfl | hx
      · exact ⟨d, q1⟩
      · exact i2 x hx
    · cases h
/-- what the caller hopes for an exception -/
def wE (mx : Str → Option Value) (E : XK) : Wx := fun c _ H => ∀ cls, mx c = some cls → E cls none H
theorem body_of {mx : Str → Option Value} {io : List Bool} {m : S} {N : List Str} {vs : List V} {H : Hp} {Q : VK} {E : XK} (h : spF mx io (fnBody N.length io m) vs H Q E) :
    tS (wE mx E) (ioSlots 0 io) m { nx := fun _ H' => Q .non H', rt := Q } (start N vs) H := by
  obtain ⟨F, G, ds, as, fT, kp, ar, hm⟩ := h
  obtain ⟨ps, ip⟩ := ioP_of 0 ar
  obtain ⟨sl1, sl2⟩ := ip.slots
  have er := er_start (N := N) fT kp ar ip
  refine ⟨⟨F, ps, fT⟩, startE N.length io ds, G, fun p hp => ?_, er, ?_⟩
  · rw [← sl1]
    exact List.mem_map.mpr ⟨p, hp, rfl⟩
  have hl : ds.length = io.length := ar.len.2
  unfold fnBody at hm
  rw [if_pos hl] at hm
  have keep : ∀ {e : En} {G' H' : Hp} {σ : L2.St}, Er ⟨F, ps, fT⟩ e G' σ H' → Keeps F G' H' := fun er' => ⟨er'.gH, er'.fH⟩
  cases q : m (startE N.length io ds) with
  | bad => rw [q] at hm; exact hm
  | exc c e =>
    rw [q] at hm
    exact fun σ G' H' x er' cls hc => hm H' G' cls x (keep er') hc
  | ok f e =>
    rw [q] at hm
    dsimp only at hm
    cases q2 : outsOf e (ioSlots 0 io) with
    | none => simp only [q2] at hm
    | some os =>
      cases f with
      | next =>
        simp only [q2] at hm
        intro σ G' H' x er'
        obtain ⟨o1, o2⟩ := outs_of er' (ps := ps) (os := os) (fun p hp => er'.io p hp) (by rw [sl1]; exact q2)
        exact hm .non H' G' x (keep er') (sl2 ▸ o1) (.inl ⟨rfl, .non⟩)
      | ret d fr =>
        simp only [q2] at hm
        intro σ G' H' v x er' vr
        obtain ⟨o1, o2⟩ := outs_of er' (ps := ps) (os := os) (fun p hp => er'.io p hp) (by rw [sl1]; exact q2)
        refine hm v H' G' x (keep er') (sl2 ▸ o1) ?_
        rcases vr with ⟨r1, r2⟩ | ⟨r1, a, rfl, r3, r4, r5⟩
        · exact .inl ⟨r1, r2⟩
        · refine .inr ⟨r1, a, rfl, r3, r4, fun hm' => ?_⟩
          rw [← sl2] at hm'
          obtain ⟨p, hp, rfl⟩ := List.mem_map.mp hm'
          obtain ⟨d', hd⟩ := o2 p hp
          exact r5 p.1 d' hd (er'.io p hp)
end G6

namespace G6
open PySem PySem.Spec L2
/-! ### the defs of a law, by levels -/
structure Df where
  x : Str
  N : List Str
  ps : List Str
  io : List Bool
  st : Stmt
  b : (Str → Fn) → S
structure Lw where
  defs : List Df
  blt : List Str
  exs : List Str
  sub : Str → List Str
def Lw.find (L : Lw) (x : Str) : Option Df := L.defs.find? fun d => d.x == x
def ioT (L : Lw) (x : Str) : Option (List Bool) := (L.find x).map (·.io)
def tab (L : Lw) : Nat → Str → Fn
  | 0, _ => fun _ => .bad
  | n + 1, x => match L.find x with
    | some d => fnBody d.N.length d.io (d.b (tab L n))
    | none => fun _ => .bad
def scOf (L : Lw) (d : Df) (F : Str → Fn) : SC := { N := d.N, sc := defScope d.st, io := ioT L, fn := F, bl := fun x => L.blt.contains x, fnB := fun _ => true, ios := ioSlots 0 d.io, ex := fun x => L.exs.contains x, sub := L.sub, loops := true }
/-- the texts are what they are said to be -/
structure LwOk (L : Lw) : Prop where
  comp : ∀ d ∈ L.defs, ∀ F : Str → Fn, compSs (compS 60 60) (scOf L d F) (defBody d.st) = some (d.b F)
  scope : ∀ d ∈ L.defs, FnScope d.N d.ps (defScope d.st)
  len : ∀ d ∈ L.defs, d.ps.length = d.io.length
  bind : ∀ d ∈ L.defs, ∀ (kV doc pm : Value) (an : Option Addr) (cdv ct : Value) (us : List Value), us.length = d.ps.length → bindArgs (PySem.W.fnOf d.x d.x (defArgs d.st) (defBody d.st) (defScope d.st) .none kV doc pm an cdv ct) ⟨us, []⟩ = pure (d.ps.zip us)
/-- what the head tells -/
structure LwIn (L : Lw) (K : PySem.W.Frag) (mg : Str → Option Value) : Prop where
  defs : ∀ d ∈ L.defs, ∃ a fd, mg d.x = some (.ref a) ∧ FunD K d.x d.x (defArgs d.st) (defBody d.st) (defScope d.st) [] [] a fd
  blt : ∀ x ∈ L.blt, mg x = none
  exs : ∀ x ∈ L.exs, ∃ C, mg x = some (.ref C) ∧ PySem.W.excIn K C He.veBase "ValueError.__new__" = true ∧ PySem.W.keepIn K (.ref C) = true ∧ PySem.W.subIn K (.ref C) (.type "BaseException") = some true ∧ PySem.W.typeIn K (.ref C) = some (.type "type")
  exm : ∀ x y C D, x ∈ L.exs → y ∈ L.exs → mg x = some C → mg y = some D → PySem.W.exmOne K C D = some (decide (x ∈ L.sub y))
def mxL (L : Lw) (mg : Str → Option Value) : Str → Option Value := fun x => if L.exs.contains x = true then mg x else none
section
variable {L : Lw} {P : Program} {w : World} {K : PySem.W.Frag} {mg : Str → Option Value} {base : Heap}
theorem find_mem {x : Str} {d : Df} (h : L.find x = some d) : d ∈ L.defs ∧ d.x = x := by
  unfold Lw.find at h
  refine ⟨List.mem_of_find?_eq_some h, ?_⟩
  have := List.find?_some h
  simpa using this
def DefsOk (L : Lw) (P : Program) (w : World) (K : PySem.W.Frag) (mg : Str → Option Value) (base : Heap) (k : Nat) : Prop :=
  ∀ f io, ioT L f = some io → ∃ a fd ps, mg f = some (.ref a) ∧ PySem.W.keepIn K (.ref a) = true ∧ Binds K fd ps [] ∧ FnOk P w K mg base (CX P w) k a fd ps (spF (mxL L mg) io (tab L k f))
theorem def_ok (ok : LwOk L) (hin : LwIn L K mg) {d : Df} (hd : d ∈ L.defs) {k : Nat} (ih : DefsOk L P w K mg base k) {a : Addr} {fd : FuncData} (F : FunD K d.x d.x (defArgs d.st) (defBody d.st) (defScope d.st) [] [] a fd) :
    FnOk P w K mg base (CX P w) (k + 1) a fd d.ps (spF (mxL L mg) d.io (fnBody d.N.length d.io (d.b (tab L k)))) := by
  refine F.ok (ok.scope d hd) (fun vs H Q E h => ?_) fun cdv A outer s H vs Q E hr h => ?_
  · rw [spF_len vs H Q E h, ok.len d hd]
  · have W : Wx := wE (mxL L mg) E
    have good : Good (cxOf (CX P w) P w K mg base d.N d.x (defScope d.st) a cdv A outer s H E) (scOf L d (tab L k)) (wE (mxL L mg) E) k := by
      refine { hN := rfl, nd := (ok.scope d hd).nd, sc := rfl, calm := rfl, fnB := fun _ _ => rfl, bl := fun x hx => ?_, room := hr, defs := ih, exs := fun x hx => ?_, exm := fun x y C D hx hy hC hD => ?_, tk := ?_, po := fun _ => ⟨?_, rfl, rfl⟩ }
      · exact hin.blt x (by simpa [scOf] using hx)
      · exact hin.exs x (by simpa [scOf] using hx)
      · exact hin.exm x y C D (by simpa [scOf] using hx) (by simpa [scOf] using hy) hC hD
      · refine (takes_of (X := cxOf (CX P w) P w K mg base d.N d.x (defScope d.st) a cdv A outer s H E) (E := E) rfl rfl rfl rfl).imp fun cls dd σ H' hw => ?_
        obtain ⟨rfl, c, hc, hw⟩ := hw
        exact hw cls hc
      · exact passes_of rfl
    exact ⟨_, snd_Ss (snd_S 60) good (ok.comp d hd (tab L k)), body_of h⟩
theorem lv (ok : LwOk L) (hin : LwIn L K mg) : ∀ k, DefsOk L P w K mg base k
  | 0 => fun f io h => by
    unfold ioT at h
    rw [Option.map_eq_some_iff] at h
    obtain ⟨d, h1, rfl⟩ := h
    obtain ⟨hd, rfl⟩ := find_mem h1
    obtain ⟨a, fd, m1, F⟩ := hin.defs d hd
    refine ⟨a, fd, d.ps, m1, F.kp, F.bindsN (ok.bind d hd), ⟨fun vs H Q E h => ?_, fun A outer s H args us vs Q E _ _ _ _ h => ?_⟩⟩
    · obtain ⟨_, _, _, _, _, _, _, z⟩ := h
      exact z.elim
    · obtain ⟨_, _, _, _, _, _, _, z⟩ := h
      exact z.elim
  | k + 1 => fun f io h => by
    unfold ioT at h
    rw [Option.map_eq_some_iff] at h
    obtain ⟨d, h1, rfl⟩ := h
    obtain ⟨hd, rfl⟩ := find_mem h1
    obtain ⟨a, fd, m1, F⟩ := hin.defs d hd
    refine ⟨a, fd, d.ps, m1, F.kp, F.bindsN (ok.bind d hd), ?_⟩
    have e : tab L (k + 1) d.x = fnBody d.N.length d.io (d.b (tab L k)) := by
      simp only [tab, h1]
    rw [e]
    exact def_ok ok hin hd (lv ok hin k) F
end
/-! ### the head -/
def noLists (K : PySem.W.Frag) : Bool := K.all fun p => !decide (p.2.cls = .type "list")
theorem noLists_at {K : PySem.W.Frag} (h : noLists K = true) {a : Addr} {o : Obj} (e : K.lookup a = some o) : o.cls ≠ .type "list" := by
  have go : ∀ K : PySem.W.Frag, K.lookup a = some o → (a, o) ∈ K := by
    intro K
    induction K with
    | nil => intro e; cases e
    | cons p K ih =>
      intro e
      obtain ⟨b, q⟩ := p
      rw [List.lookup_cons] at e
      split at e
      · rename_i hb
        have : a = b := by simpa using hb
        subst this
        cases e
        exact List.mem_cons_self
      · exact List.mem_cons_of_mem _ (ih e)
  have := List.all_eq_true.mp h (a, o) (go K e)
  simpa using this
def hookG (n : Nat) (fa : List He.Fa) (fn : List He.DefD) : PySem.W.Hook where
  α := He.AlD × Bool
  obs := fun s => (He.obsDG n fa fn s.heap.get?, noLists (He.frG s.heap.get? (He.asD s.heap.get? n)))
  val := fun _ => (He.valD fn, true)
  says := fun _ h => ∃ K : PySem.W.Frag, K.In h ∧ He.SaysD fa fn K ∧ noLists K = true
  of := fun _ _ e => ⟨_, He.frG_in, congrArg Prod.fst e, congrArg Prod.snd e⟩
  keeps := fun _ _ _ ⟨K, hK, c⟩ k => ⟨K, PySem.W.Frag.In.keeps hK k, c⟩
def obG (n : Nat) (fa : List He.Fa) (fn : List He.DefD) (s : PySem.W.SharedT) : He.AlD × Bool := (He.obsDG n fa fn (HandSHeadRun.getT s), noLists (He.frG (HandSHeadRun.getT s) (He.asD (HandSHeadRun.getT s) n)))
theorem obG_eq (n : Nat) (fa : List He.Fa) (fn : List He.DefD) (s : PySem.W.SharedT) : obG n fa fn s = (hookG n fa fn).obs s.abs := by
  have e : HandSHeadRun.getT s = s.abs.heap.get? := funext (HandSHeadRun.getT_eq s)
  unfold obG
  rw [e]
  rfl
/-! ### the end -/
theorem rp_of_ints (G : Hp) : ∀ ns : List Int, RpAll G (ns.map V.int) (ns.map PyData.int)
  | [] => .nil
  | n :: ns => .cons (.int n) (rp_of_ints G ns)
theorem sp_law {K : PySem.W.Frag} {mx : Str → Option Value} {f : Fn} {H : Hp} {a : Addr} {ns : List Int} (nl : noLists K = true) (hS : SqL K H a (ns.map V.int)) (h : ∃ fr os, f [.list (ns.map PyData.int)] = .ok (.bool true) fr os) :
    spF mx [false] f [.ref a] H (fun v _ => v = .bl true) fun _ _ _ => False := by
  have rd : Rd H a (.lst (ns.map V.int)) := by
    rcases hS with h | ⟨o, its, n, e, c, _⟩
    · exact h
    · exact (noLists_at nl e c).elim
  obtain ⟨fr, os, h⟩ := h
  refine ⟨fun _ => none, H, [.list (ns.map PyData.int)], [], fun _ _ z => (by cases z), ⟨Same.refl H, fun _ _ z => (by cases z)⟩, .v (.lst rd (rp_of_ints H ns)) .nil, ?_⟩
  rw [h]
  intro v H' G' x kp outs ret
  rcases ret with ⟨_, rp⟩ | ⟨_, b, _, ⟨_, o, _, c⟩, _⟩
  · cases rp; rfl
  · cases c
theorem noCX (P : Program) (w : World) (H : Hp) (s : Shared) (e : Value) (s' : Shared) (h : CX P w [] H s (fun _ _ _ => False) e s') : False := by
  obtain ⟨_, _, _, _, _, _, _, _, _, _, _, _, z⟩ := h
  exact z
/-- the head's facts for these defs -/
def faOf (L : Lw) : List He.Fa := (L.defs.map fun d => He.Fa.glo d.x) ++ (L.blt.map .free ++ (L.exs.map .glo ++ (L.exs.map .exc ++ (L.exs.map fun x => L.exs.map fun y => He.Fa.exm x y (decide (x ∈ L.sub y))).flatten)))
def fnOf' (L : Lw) : List He.DefD := L.defs.map fun d => ⟨(d.x, none), d.x, d.x, defArgs d.st, defBody d.st, defScope d.st, [], []⟩
theorem lwIn {L : Lw} {K : PySem.W.Frag} {h : Heap} {mg : Str → Option Value} (X : K.In h) (G : h.Ns mainGlobals mg) (c : He.SaysD (faOf L) (fnOf' L) K) : LwIn L K mg := by
  have fact : ∀ f ∈ faOf L, f.ok K = true := fun f hf => c.facts hf
  have glo : ∀ x, He.Fa.glo x ∈ faOf L → mg x = some (.ref (He.ga K x)) := fun x hx => He.glo_ok X G (fact _ hx)
  refine ⟨fun d hd => ?_, fun x hx => ?_, fun x hx => ?_, fun x y C D hx hy hC hD => ?_⟩
  · obtain ⟨fd, F⟩ := c.defs (d := ⟨(d.x, none), d.x, d.x, defArgs d.st, defBody d.st, defScope d.st, [], []⟩) (List.mem_map.mpr ⟨d, hd, rfl⟩)
    exact ⟨He.ga K d.x, fd, glo d.x (by simp only [faOf, List.mem_append, List.mem_map]; exact .inl ⟨d, hd, rfl⟩), F⟩
  · exact He.free_ok X G (fact (.free x) (by simp only [faOf, List.mem_append, List.mem_map]; exact .inr (.inl ⟨x, hx, rfl⟩)))
  · have hg := glo x (by simp only [faOf, List.mem_append, List.mem_map]; exact .inr (.inr (.inl ⟨x, hx, rfl⟩)))
    obtain ⟨e1, e2, e3, e4⟩ := He.exc_ok (fact (.exc x) (by simp only [faOf, List.mem_append, List.mem_map]; exact .inr (.inr (.inr (.inl ⟨x, hx, rfl⟩)))))
    exact ⟨_, hg, e1, e2, e3, e4⟩
  · have g1 := glo x (by simp only [faOf, List.mem_append, List.mem_map]; exact .inr (.inr (.inl ⟨x, hx, rfl⟩)))
    have g2 := glo y (by simp only [faOf, List.mem_append, List.mem_map]; exact .inr (.inr (.inl ⟨y, hy, rfl⟩)))
    rw [g1] at hC
    rw [g2] at hD
    cases hC
    cases hD
    refine He.exm_ok (fact (.exm x y (decide (x ∈ L.sub y))) ?_)
    simp only [faOf, List.mem_append, List.mem_map, List.mem_flatten]
    exact .inr (.inr (.inr (.inr ⟨_, ⟨x, hx, rfl⟩, List.mem_map.mpr ⟨y, hy, rfl⟩⟩)))
/-- what walk_ofE asks -/
theorem end_of {L : Lw} {P : Program} {w : World} {mg : Str → Option Value} {f : Addr} {h : Heap} {k : Nat} {d : Df} (ok : LwOk L) (hlaw : L.find "law" = some d) (hps : d.ps = [("script" : Str)]) (hio : d.io = [false]) (Y : (hookG 4 (faOf L) (fnOf' L)).says w h) (G : h.Ns mainGlobals mg) (hmg : mg ("law" : Str) = some (.ref f))
    (hlaws : ∀ ns : List Int, ns.length ≤ 63 → ∃ fr os, tab L k "law" [.list (ns.map PyData.int)] = .ok (.bool true) fr os) :
    ∃ (K : PySem.W.Frag) (fd : FuncData) (sp : Sp), K.In h ∧ (∀ (s : Shared) (u : Value), BindsTo s fd ⟨[u], []⟩ [("script", u)]) ∧
        (∀ (H : Hp) (a : Addr) (ns : List Int), ns.length ≤ 63 → Only H → SqL K H a (ns.map V.int) → sp [.ref a] H (fun v _ => v = .bl true) fun _ _ _ => False) ∧
        ∀ base : Heap, K.In base → base.Ns mainGlobals mg → FnOk P w K mg base (CX P w) k f fd [("script" : Str)] sp := by
  obtain ⟨K, KX, c, nl⟩ := Y
  have hin := lwIn KX G c
  obtain ⟨hd, hx⟩ := find_mem hlaw
  obtain ⟨a, fd, m1, F⟩ := hin.defs d hd
  rw [hx, hmg] at m1
  cases m1
  have b := FunD.bindsA (ps := d.ps) F (ok.bind d hd)
  refine ⟨K, fd, spF (mxL L mg) [false] (tab L k "law"), KX, fun s u => ?_, fun H a ns hl _ hS => sp_law nl hS (hlaws ns hl), fun base _ _ => ?_⟩
  · have := b s [u] (by rw [hps]; rfl)
    rw [hps] at this
    exact this
  · cases k with
    | zero =>
      refine ⟨fun vs H Q E h => ?_, fun A outer s H args us vs Q E _ _ _ _ h => ?_⟩
      · obtain ⟨_, _, _, _, _, _, _, z⟩ := h
        exact z.elim
      · obtain ⟨_, _, _, _, _, _, _, z⟩ := h
        exact z.elim
    | succ k =>
      have r := def_ok (P := P) (w := w) (base := base) ok hin hd (lv ok hin k) F
      have e : tab L (k + 1) "law" = fnBody d.N.length d.io (d.b (tab L k)) := by
        simp only [tab, hlaw]
      rw [hps] at r
      rw [e]
      rw [hio] at r ⊢
      exact r
/-- the end of the head, for defs that may raise -/
theorem walk_w {l : PySem.W.OpenLaw} {n k : Nat} {q : Program} {loose : List Str} {XP : (Str → Option Value) → Heap → Prop} {YP : World → Heap → Prop} {d : DefRec} {CX : World → CXT} {x : Str}
    (hn : l.most = some n) (hz : n ≤ sizeLine) (hdf : d.params.defaults = []) (hr : Room k callerA)
    (F : ∀ (w : World) (mg : Str → Option Value) (f : Addr) (h : Heap), YP w h → h.Ns mainGlobals mg → mg d.name = some (.ref f) →
      ∃ (K : PySem.W.Frag) (fd : FuncData) (sp : Sp), K.In h ∧ (∀ (s : Shared) (u : Value), BindsTo s fd ⟨[u], []⟩ [(x, u)]) ∧
        (∀ (H : Hp) (a : Addr) (ns : List Int), ns.length ≤ n → Only H → SqL K H a (ns.map V.int) → sp [.ref a] H (fun v _ => v = .bl true) fun _ _ _ => False) ∧
        ∀ base : Heap, K.In base → base.Ns mainGlobals mg → FnOk l.prog w K mg base (CX w) k f fd [x] sp)
    (hc : ∀ (w : World) (H : Hp) (s : Shared) (e : Value) (s' : Shared), CX w [] H s (fun _ _ _ => False) e s' → False) :
    PySem.W.WalkO q loose XP YP l.row.toRowW d [] (fun f vs => PySem.call f vs) := by
  refine Att.attach_call hn hdf ?_
  intro w t0 t1 mg mb f o pm cd doc a us ns top y eo ed ecd em ob hi hln hgn
  obtain ⟨K, fd, sp, hK, hbind, hsp, hF⟩ := F w mg f _ y top.T.g em
  refine law_call (CX := CX w) hK top.T.g top.T.b top.T.builtins top.T.nolimit hgn ob hi (Nat.le_trans hln hz) hr hF hbind ?_ ?_
  · exact fun H only sq => hsp H a ns hln only sq
  · exact fun H e s' => hc w H t1 e s'
end G6

namespace G6
open PySem PySem.W
/-! ### stepping: each form as a bind with a named rest -/
theorem bok {α β : Type} (a : α) (e : En) (f : α → En → Re β) : (Re.ok a e).bind f = f a e := rfl
theorem bex {α β : Type} (c : Str) (e : En) (f : α → En → Re β) : (Re.exc c e : Re α).bind f = .exc c e := rfl
def slotOk (i : Nat) (e : En) : Option (Option (Bool × D)) → Re Tok
  | some (some _) => .ok (.inl i) e
  | _ => .bad
def kEx (r : D × Bool) (e1 : En) : Re Tok := .ok (.inr r.1) e1
theorem nm_ev (i : Nat) (e : En) : Pk.ev (.nm i) e = slotOk i e e[i]? := by
  simp only [Pk.ev, slotOk]
  try (generalize e[i]? = o; rcases o with _ | _ | _ <;> rfl)
theorem ex_ev' (m : X) (e : En) : Pk.ev (.ex m) e = (m e).bind kEx := rfl
theorem slotOk_some (i : Nat) (e : En) (s : Bool × D) : slotOk i e (some (some s)) = .ok (.inl i) e := rfl
theorem kEx_eq (d : D) (b : Bool) (e : En) : kEx (d, b) e = .ok (.inr d) e := rfl
def kPks2 (t : Tok) (ts : List Tok) (e : En) : Re (List Tok) := .ok (t :: ts) e
def kPks (ps : List Pk) (t : Tok) (e : En) : Re (List Tok) := (evPks ps e).bind (kPks2 t)
theorem r_pks_nil (e : En) : evPks [] e = .ok [] e := rfl
theorem r_pks_cons (p : Pk) (ps : List Pk) (e : En) : evPks (p :: ps) e = (p.ev e).bind (kPks ps) := rfl
theorem kPks_eq (ps : List Pk) (t : Tok) (e : En) : kPks ps t e = (evPks ps e).bind (kPks2 t) := rfl
theorem kPks2_eq (t : Tok) (ts : List Tok) (e : En) : kPks2 t ts e = .ok (t :: ts) e := rfl
theorem tget_r (e : En) (d : D) : tget e (.inr d) = some d := rfl
def slotV : Option (Option (Bool × D)) → Option D
  | some (some s) => some s.2
  | _ => none
theorem tget_l (e : En) (i : Nat) : tget e (.inl i) = slotV e[i]? := by
  simp only [tget, slotV]
  try (generalize e[i]? = o; rcases o with _ | _ | _ <;> rfl)
theorem slotV_some (b : Bool) (d : D) : slotV (some (some (b, d))) = some d := rfl
def cons2 : Option D → Option (List D) → Option (List D)
  | some d, some ds => some (d :: ds)
  | _, _ => none
theorem tgets_nil (e : En) : tgets e [] = some [] := rfl
theorem tgets_cons (e : En) (t : Tok) (ts : List Tok) : tgets e (t :: ts) = cons2 (tget e t) (tgets e ts) := by
  simp only [tgets, cons2]
  try (rcases tget e t with _ | _ <;> rcases tgets e ts with _ | _ <;> rfl)
theorem cons2_eq (d : D) (ds : List D) : cons2 (some d) (some ds) = some (d :: ds) := rfl
def kOpt (e : En) : Option (D × Bool) → Re (D × Bool)
  | some r => .ok r e
  | none => .bad
theorem kOpt_eq (e : En) (r : D × Bool) : kOpt e (some r) = .ok r e := rfl
def kPrim2 (f : Pr) (e : En) : Option (List D) → Re (D × Bool)
  | some ds => kOpt e (f ds)
  | none => .bad
theorem kPrim2_eq (f : Pr) (e : En) (ds : List D) : kPrim2 f e (some ds) = kOpt e (f ds) := rfl
def kPrim (f : Pr) (ts : List Tok) (e : En) : Re (D × Bool) := kPrim2 f e (tgets e ts)
theorem kPrim_eq (f : Pr) (ts : List Tok) (e : En) : kPrim f ts e = kPrim2 f e (tgets e ts) := rfl
theorem xPrim_eq (f : Pr) (ps : List Pk) (e : En) : xPrim f ps e = (evPks ps e).bind (kPrim f) := by
  unfold xPrim
  congr 1
def kVar (i : Nat) (e : En) : Option (Option (Bool × D)) → Re (D × Bool)
  | some (some s) => .ok (s.2, false) (e.set i (some (false, s.2)))
  | _ => .bad
theorem xVar_eq (i : Nat) (e : En) : xVar i e = kVar i e e[i]? := by
  unfold xVar kVar
  rcases e[i]? with _ | _ | _ <;> rfl
theorem kVar_eq (i : Nat) (e : En) (b : Bool) (d : D) : kVar i e (some (some (b, d))) = .ok (d, false) (e.set i (some (false, d))) := rfl
theorem xLit_eq (d : D) (e : En) : xLit d e = .ok (d, false) e := rfl
def kXs2 (r : D) (ds : List D) (e : En) : Re (List D) := .ok (r :: ds) e
def kXs (ms : List X) (r : D × Bool) (e : En) : Re (List D) := (evXs ms e).bind (kXs2 r.1)
theorem r_xs_nil (e : En) : evXs [] e = .ok [] e := rfl
theorem r_xs_cons (m : X) (ms : List X) (e : En) : evXs (m :: ms) e = (m e).bind (kXs ms) := rfl
theorem kXs_eq (ms : List X) (d : D) (b : Bool) (e : En) : kXs ms (d, b) e = (evXs ms e).bind (kXs2 d) := rfl
theorem kXs2_eq (r : D) (ds : List D) (e : En) : kXs2 r ds e = .ok (r :: ds) e := rfl
def kTup (ds : List D) (e : En) : Re (D × Bool) := .ok (.tuple ds, false) e
def kLst (ds : List D) (e : En) : Re (D × Bool) := .ok (.list ds, true) e
theorem xTup_eq (ms : List X) (e : En) : xTup ms e = (evXs ms e).bind kTup := rfl
theorem xLst_eq (ms : List X) (e : En) : xLst ms e = (evXs ms e).bind kLst := rfl
theorem kTup_eq (ds : List D) (e : En) : kTup ds e = .ok (.tuple ds, false) e := rfl
theorem kLst_eq (ds : List D) (e : En) : kLst ds e = .ok (.list ds, true) e := rfl
/-! tests -/
def kTv2 (e : En) : Option D → Re Bool
  | some d => if truOk d then .ok d.truthy e else .bad
  | none => .bad
def kTv (t : Tok) (e : En) : Re Bool := kTv2 e (tget e t)
theorem tVal_eq (p : Pk) (e : En) : tVal p e = (p.ev e).bind kTv := by
  unfold tVal
  congr 1
theorem kTv_eq (t : Tok) (e : En) : kTv t e = kTv2 e (tget e t) := rfl
theorem kTv_bool (e : En) (b : Bool) : kTv2 e (some (.bool b)) = .ok b e := rfl
theorem kTv_list (e : En) (xs : List D) : kTv2 e (some (.list xs)) = .ok (!xs.isEmpty) e := rfl
theorem kTv_tuple (e : En) (xs : List D) : kTv2 e (some (.tuple xs)) = .ok (!xs.isEmpty) e := rfl
theorem kTv_int (e : En) (i : Int) : kTv2 e (some (.int i)) = .ok (i != 0) e := rfl
theorem kTv_none (e : En) : kTv2 e (some .none) = .ok false e := rfl
def kTc (r : D × Bool) (e : En) : Re Bool := match r.1 with
  | .bool b => .ok b e
  | _ => .bad
theorem tCmp_eq (m : X) (e : En) : tCmp m e = (m e).bind kTc := by
  unfold tCmp kTc
  congr 1
theorem kTc_eq (b f : Bool) (e : En) : kTc (.bool b, f) e = .ok b e := rfl
def kNot (b : Bool) (e : En) : Re Bool := .ok (!b) e
theorem tNot_eq (t : T) (e : En) : tNot t e = (t e).bind kNot := rfl
theorem kNot_eq (b : Bool) (e : En) : kNot b e = .ok (!b) e := rfl
def kAnd (u : T) (b : Bool) (e : En) : Re Bool := if b then u e else .ok false e
theorem tAnd_eq (t u : T) (e : En) : tAnd t u e = (t e).bind (kAnd u) := rfl
theorem kAnd_t (u : T) (e : En) : kAnd u true e = u e := rfl
theorem kAnd_f (u : T) (e : En) : kAnd u false e = .ok false e := rfl
def kOr (u : T) (b : Bool) (e : En) : Re Bool := if b then .ok true e else u e
theorem tOr_eq (t u : T) (e : En) : tOr t u e = (t e).bind (kOr u) := rfl
theorem kOr_t (u : T) (e : En) : kOr u true e = .ok true e := rfl
theorem kOr_f (u : T) (e : En) : kOr u false e = u e := rfl
def kXif (a b : X) (c : Bool) (e : En) : Re (D × Bool) := if c then a e else b e
theorem xIf_eq (t : T) (a b : X) (e : En) : xIf t a b e = (t e).bind (kXif a b) := rfl
theorem kXif_t (a b : X) (e : En) : kXif a b true e = a e := rfl
theorem kXif_f (a b : X) (e : En) : kXif a b false e = b e := rfl
def kXand (b : X) (r : D × Bool) (e : En) : Re (D × Bool) := match r.1 with
  | .bool true => b e
  | .bool false => .ok (.bool false, false) e
  | _ => .bad
theorem xAnd_eq (a b : X) (e : En) : xAnd a b e = (a e).bind (kXand b) := by
  unfold xAnd kXand
  congr 1
theorem kXand_t (b : X) (f : Bool) (e : En) : kXand b (.bool true, f) e = b e := rfl
theorem kXand_f (b : X) (f : Bool) (e : En) : kXand b (.bool false, f) e = .ok (.bool false, false) e := rfl
def kXor (b : X) (r : D × Bool) (e : En) : Re (D × Bool) := match r.1 with
  | .bool false => b e
  | .bool true => .ok (.bool true, false) e
  | _ => .bad
theorem xOr_eq (a b : X) (e : En) : xOr a b e = (a e).bind (kXor b) := by
  unfold xOr kXor
  congr 1
theorem kXor_t (b : X) (f : Bool) (e : En) : kXor b (.bool true, f) e = .ok (.bool true, false) e := rfl
theorem kXor_f (b : X) (f : Bool) (e : En) : kXor b (.bool false, f) e = b e := rfl
def kXnot2 (e : En) : Option D → Re (D × Bool)
  | some d => if truOk d then .ok (.bool (!d.truthy), false) e else .bad
  | none => .bad
def kXnot (t : Tok) (e : En) : Re (D × Bool) := kXnot2 e (tget e t)
theorem xNot_eq (p : Pk) (e : En) : xNot p e = (p.ev e).bind kXnot := by
  unfold xNot
  congr 1
theorem kXnot_eq (t : Tok) (e : En) : kXnot t e = kXnot2 e (tget e t) := rfl
theorem kXnot_bool (e : En) (b : Bool) : kXnot2 e (some (.bool b)) = .ok (.bool (!b), false) e := rfl
theorem kXnot_list (e : En) (xs : List D) : kXnot2 e (some (.list xs)) = .ok (.bool (!!xs.isEmpty), false) e := rfl
theorem kXnot_tuple (e : En) (xs : List D) : kXnot2 e (some (.tuple xs)) = .ok (.bool (!!xs.isEmpty), false) e := rfl
theorem kXnot_int (e : En) (i : Int) : kXnot2 e (some (.int i)) = .ok (.bool (!(i != 0)), false) e := rfl
theorem kXnot_none (e : En) : kXnot2 e (some .none) = .ok (.bool true, false) e := rfl
/-! a op b op2 c -/
def asB : Option (D × Bool) → Option Bool
  | some (.bool b, _) => some b
  | _ => none
theorem asB_eq (b f : Bool) : asB (some (.bool b, f)) = some b := rfl
def kC5 (e : En) : Option Bool → Re (D × Bool)
  | some k => .ok (.bool k, false) e
  | none => .bad
theorem kC5_eq (e : En) (k : Bool) : kC5 e (some k) = .ok (.bool k, false) e := rfl
def kC4 (g : Pr) (e : En) : Option D → Option D → Re (D × Bool)
  | some y, some z => kC5 e (asB (g [y, z]))
  | _, _ => .bad
theorem kC4_eq (g : Pr) (e : En) (y z : D) : kC4 g e (some y) (some z) = kC5 e (asB (g [y, z])) := rfl
def kC3 (g : Pr) (tb tc : Tok) (e : En) : Re (D × Bool) := kC4 g e (tget e tb) (tget e tc)
theorem kC3_eq (g : Pr) (tb tc : Tok) (e : En) : kC3 g tb tc e = kC4 g e (tget e tb) (tget e tc) := rfl
def kC2c (g : Pr) (c : Pk) (tb : Tok) (e : En) : Option Bool → Re (D × Bool)
  | some true => (c.ev e).bind (kC3 g tb)
  | some false => .ok (.bool false, false) e
  | none => .bad
theorem kC2c_t (g : Pr) (c : Pk) (tb : Tok) (e : En) : kC2c g c tb e (some true) = (c.ev e).bind (kC3 g tb) := rfl
theorem kC2c_f (g : Pr) (c : Pk) (tb : Tok) (e : En) : kC2c g c tb e (some false) = .ok (.bool false, false) e := rfl
def kC2b (f g : Pr) (c : Pk) (tb : Tok) (e : En) : Option D → Option D → Re (D × Bool)
  | some x, some y => kC2c g c tb e (asB (f [x, y]))
  | _, _ => .bad
theorem kC2b_eq (f g : Pr) (c : Pk) (tb : Tok) (e : En) (x y : D) : kC2b f g c tb e (some x) (some y) = kC2c g c tb e (asB (f [x, y])) := rfl
def kC2 (f g : Pr) (c : Pk) (ta tb : Tok) (e : En) : Re (D × Bool) := kC2b f g c tb e (tget e ta) (tget e tb)
theorem kC2_eq (f g : Pr) (c : Pk) (ta tb : Tok) (e : En) : kC2 f g c ta tb e = kC2b f g c tb e (tget e ta) (tget e tb) := rfl
def kC1 (f g : Pr) (b c : Pk) (ta : Tok) (e : En) : Re (D × Bool) := (b.ev e).bind (kC2 f g c ta)
theorem kC1_eq (f g : Pr) (b c : Pk) (ta : Tok) (e : En) : kC1 f g b c ta e = (b.ev e).bind (kC2 f g c ta) := rfl
theorem xCmp2_eq (f g : Pr) (a b c : Pk) (e : En) : xCmp2 f g a b c e = (a.ev e).bind (kC1 f g b c) := by
  unfold xCmp2
  congr 1
  funext ta e1
  unfold kC1
  congr 1
  funext tb e2
  unfold kC2 kC2b
  rcases tget e2 ta with _ | x
  · rfl
  rcases tget e2 tb with _ | y
  · rfl
  simp only
  rcases f [x, y] with _ | ⟨d, fr⟩
  · rfl
  cases d with
  | bool k =>
    cases k with
    | false => rfl
    | true =>
      simp only [asB, kC2c]
      congr 1
      funext tc e3
      unfold kC3 kC4
      rcases tget e3 tb with _ | y'
      · rfl
      rcases tget e3 tc with _ | z
      · rfl
      simp only
      rcases g [y', z] with _ | ⟨d, fr⟩
      · rfl
      cases d <;> rfl
  | _ => rfl
/-! calls -/
def kArs2 (t : At) (ts : List At) (e : En) : Re (List At) := .ok (t :: ts) e
def kArsV (as : List Ar) (x : D × Bool) (e : En) : Re (List At) := (evArs as e).bind (kArs2 (.v x.1))
def kArsT (as : List Ar) (x : D × Bool) (e : En) : Re (List At) := if x.2 then (evArs as e).bind (kArs2 (.tmp x.1)) else .bad
def kArsI (as : List Ar) (i : Nat) (e : En) : Option (Option (Bool × D)) → Re (List At)
  | some (some _) => (evArs as e).bind (kArs2 (.io i))
  | _ => .bad
theorem r_ars_nil (e : En) : evArs [] e = .ok [] e := rfl
theorem r_ars_v (m : X) (as : List Ar) (e : En) : evArs (.v m :: as) e = (m e).bind (kArsV as) := rfl
theorem ars_t (m : X) (as : List Ar) (e : En) : evArs (.tmp m :: as) e = (m e).bind (kArsT as) := rfl
theorem ars_i (i : Nat) (as : List Ar) (e : En) : evArs (.io i :: as) e = kArsI as i e e[i]? := by
  unfold evArs kArsI
  rcases e[i]? with _ | _ | _ <;> rfl
theorem kArsV_eq (as : List Ar) (d : D) (b : Bool) (e : En) : kArsV as (d, b) e = (evArs as e).bind (kArs2 (.v d)) := rfl
theorem kArsT_eq (as : List Ar) (d : D) (e : En) : kArsT as (d, true) e = (evArs as e).bind (kArs2 (.tmp d)) := rfl
theorem kArsI_eq (as : List Ar) (i : Nat) (e : En) (s : Bool × D) : kArsI as i e (some (some s)) = (evArs as e).bind (kArs2 (.io i)) := rfl
theorem kArs2_eq (t : At) (ts : List At) (e : En) : kArs2 t ts e = .ok (t :: ts) e := rfl
def consV (d : D) : Option (List D) → Option (List D)
  | some ds => some (d :: ds)
  | none => none
theorem consV_eq (d : D) (ds : List D) : consV d (some ds) = some (d :: ds) := rfl
def consI : Option (Option (Bool × D)) → Option (List D) → Option (List D)
  | some (some (true, d)), some ds => some (d :: ds)
  | _, _ => none
theorem consI_eq (d : D) (ds : List D) : consI (some (some (true, d))) (some ds) = some (d :: ds) := rfl
theorem av_nil (e : En) : atVals e [] = some [] := rfl
theorem av_v (e : En) (d : D) (r : List At) : atVals e (.v d :: r) = consV d (atVals e r) := by
  simp only [atVals, consV]
  rcases atVals e r with _ | _ <;> rfl
theorem av_t (e : En) (d : D) (r : List At) : atVals e (.tmp d :: r) = consV d (atVals e r) := by
  simp only [atVals, consV]
  rcases atVals e r with _ | _ <;> rfl
theorem av_i (e : En) (i : Nat) (r : List At) : atVals e (.io i :: r) = consI e[i]? (atVals e r) := by
  simp only [atVals, consI]
  rcases e[i]? with _ | _ | ⟨b, d⟩
  · rfl
  · rfl
  · cases b <;> rcases atVals e r with _ | _ <;> rfl
theorem po_nil (e : En) : putOuts [] [] e = some e := rfl
theorem po_v (d : D) (r : List At) (os : List D) (e : En) : putOuts (.v d :: r) os e = putOuts r os e := by
  cases os <;> simp [putOuts]
theorem po_i (i : Nat) (r : List At) (o : D) (os : List D) (e : En) : putOuts (.io i :: r) (o :: os) e = putOuts r os (e.set i (some (true, o))) := rfl
theorem po_t (d : D) (r : List At) (o : D) (os : List D) (e : En) : putOuts (.tmp d :: r) (o :: os) e = putOuts r os e := rfl
def kCall4 (r : D × Bool) : Option En → Re (D × Bool)
  | some e2 => .ok r e2
  | none => .bad
theorem kCall4_eq (r : D × Bool) (e : En) : kCall4 r (some e) = .ok r e := rfl
def kCall3 (ts : List At) (e1 : En) : FRe → Re (D × Bool)
  | .ok d fr outs => kCall4 (d, fr) (putOuts ts outs e1)
  | .exc c => .exc c (loseOuts ts e1)
  | .bad => .bad
theorem kCall3_ok (ts : List At) (e : En) (d : D) (fr : Bool) (os : List D) : kCall3 ts e (.ok d fr os) = kCall4 (d, fr) (putOuts ts os e) := rfl
theorem kCall3_ex (ts : List At) (e : En) (c : Str) : kCall3 ts e (.exc c) = .exc c (loseOuts ts e) := rfl
def kCall2 (f : Fn) (ts : List At) (e1 : En) : Option (List D) → Re (D × Bool)
  | some ds => kCall3 ts e1 (f ds)
  | none => .bad
theorem kCall2_eq (f : Fn) (ts : List At) (e : En) (ds : List D) : kCall2 f ts e (some ds) = kCall3 ts e (f ds) := rfl
def kCall (f : Fn) (ts : List At) (e : En) : Re (D × Bool) := kCall2 f ts e (atVals e ts)
theorem kCall_eq (f : Fn) (ts : List At) (e : En) : kCall f ts e = kCall2 f ts e (atVals e ts) := rfl
theorem xCall_eq (f : Fn) (as : List Ar) (e : En) : xCall f as e = (evArs as e).bind (kCall f) := by
  unfold xCall
  congr 1
/-! what is walked -/
def kIval (r : D × Bool) (e : En) : Re (List D) := ofO (walked r.1) e
theorem it_val (m : X) (e : En) : It.ev (.val m) e = (m e).bind kIval := rfl
theorem kIval_list (xs : List D) (b : Bool) (e : En) : kIval (.list xs, b) e = .ok xs e := rfl
theorem kIval_tuple (xs : List D) (b : Bool) (e : En) : kIval (.tuple xs, b) e = .ok xs e := rfl
theorem kIval_dict (kvs : List (D × D)) (b : Bool) (e : En) (h : kvs.isEmpty = false) : kIval (.dict kvs, b) e = .ok (kvs.map (·.1)) e := by
  simp only [kIval, walked, h]
  rfl
theorem kIval_str (s : Str) (b : Bool) (e : En) : kIval (.str s, b) e = .ok (chars s) e := rfl
def kR1b (e : En) : Option (List D) → Re (List D)
  | some [.int n] => if small62 n then .ok (rngD 0 n) e else .bad
  | _ => .bad
def kR1 (ts : List Tok) (e : En) : Re (List D) := kR1b e (tgets e ts)
theorem it_r1 (a : Pk) (e : En) : It.ev (.rng1 a) e = (evPks [a] e).bind kR1 := by
  unfold It.ev kR1 kR1b
  rfl
theorem kR1_eq (ts : List Tok) (e : En) : kR1 ts e = kR1b e (tgets e ts) := rfl
theorem kR1b_eq (e : En) (n : Int) (h : small62 n = true) : kR1b e (some [.int n]) = .ok (rngD 0 n) e := by simp [kR1b, h]
def kR2b (e : En) : Option (List D) → Re (List D)
  | some [.int m, .int n] => if small62 m && small62 n then .ok (rngD m n) e else .bad
  | _ => .bad
def kR2 (ts : List Tok) (e : En) : Re (List D) := kR2b e (tgets e ts)
theorem it_r2 (a b : Pk) (e : En) : It.ev (.rng2 a b) e = (evPks [a, b] e).bind kR2 := by
  unfold It.ev kR2 kR2b
  rfl
theorem kR2_eq (ts : List Tok) (e : En) : kR2 ts e = kR2b e (tgets e ts) := rfl
theorem kR2b_eq (e : En) (m n : Int) (h : small62 m = true) (h2 : small62 n = true) : kR2b e (some [.int m, .int n]) = .ok (rngD m n) e := by simp [kR2b, h, h2]
def kEnum (r : D × Bool) (e : En) : Re (List D) := match r.1 with
  | .list xs => .ok (enumD 0 xs) e
  | .tuple xs => .ok (enumD 0 xs) e
  | _ => .bad
theorem it_enum (m : X) (e : En) : It.ev (.enum m) e = (m e).bind kEnum := by
  unfold It.ev kEnum
  congr 1
theorem kEnum_tuple (xs : List D) (b : Bool) (e : En) : kEnum (.tuple xs, b) e = .ok (enumD 0 xs) e := rfl
theorem kEnum_list (xs : List D) (b : Bool) (e : En) : kEnum (.list xs, b) e = .ok (enumD 0 xs) e := rfl
def kZip2 (r q : D × Bool) (e : En) : Re (List D) := match r.1, q.1 with
  | .list xs, .list ys => .ok (zipD xs ys) e
  | .tuple xs, .tuple ys => .ok (zipD xs ys) e
  | .list xs, .tuple ys => .ok (zipD xs ys) e
  | .tuple xs, .list ys => .ok (zipD xs ys) e
  | _, _ => .bad
def kZip (n : X) (r : D × Bool) (e : En) : Re (List D) := (n e).bind (kZip2 r)
theorem it_zip (m n : X) (e : En) : It.ev (.zip m n) e = (m e).bind (kZip n) := by
  unfold It.ev kZip kZip2
  congr 1
theorem kZip_eq (n : X) (r : D × Bool) (e : En) : kZip n r e = (n e).bind (kZip2 r) := rfl
theorem kZip2_l (xs ys : List D) (b c : Bool) (e : En) : kZip2 (.list xs, b) (.list ys, c) e = .ok (zipD xs ys) e := rfl
theorem kZip2_lt (xs ys : List D) (b c : Bool) (e : En) : kZip2 (.list xs, b) (.tuple ys, c) e = .ok (zipD xs ys) e := rfl
theorem kZip2_tl (xs ys : List D) (b c : Bool) (e : En) : kZip2 (.tuple xs, b) (.list ys, c) e = .ok (zipD xs ys) e := rfl
theorem kZip2_t (xs ys : List D) (b c : Bool) (e : En) : kZip2 (.tuple xs, b) (.tuple ys, c) e = .ok (zipD xs ys) e := rfl
/-! methods -/
def kApp2 (d : D) (i : Nat) (e1 : En) : Option (Option (Bool × D)) → Re (D × Bool)
  | some (some (true, .list xs)) => if xs.length < sizeLine then .ok (.none, false) (e1.set i (some (true, .list (xs ++ [d])))) else .bad
  | _ => .bad
def kApp (i : Nat) (r : D × Bool) (e1 : En) : Re (D × Bool) := kApp2 r.1 i e1 e1[i]?
def kAp0 (i : Nat) (m : X) (e : En) : Option (Option (Bool × D)) → Re (D × Bool)
  | some (some (_, .list _)) => (m e).bind (kApp i)
  | _ => .bad
theorem xAppend_eq (i : Nat) (m : X) (e : En) : xAppend i m e = kAp0 i m e e[i]? := by
  unfold xAppend isListAt kAp0
  split <;> simp_all <;> rfl
theorem kAp0_eq (i : Nat) (m : X) (e : En) (b : Bool) (xs : List D) : kAp0 i m e (some (some (b, .list xs))) = (m e).bind (kApp i) := rfl
theorem kApp_eq (i : Nat) (d : D) (b : Bool) (e : En) : kApp i (d, b) e = kApp2 d i e e[i]? := rfl
theorem kApp2_eq (d : D) (i : Nat) (e : En) (xs : List D) (h : xs.length < sizeLine) : kApp2 d i e (some (some (true, .list xs))) = .ok (.none, false) (e.set i (some (true, .list (xs ++ [d])))) := by simp [kApp2, h]
def kExt2 (d : D) (i : Nat) (e1 : En) (s : Option (Option (Bool × D))) : Re (D × Bool) := match s, d with
  | some (some (true, .list xs)), .list ys => if xs.length + ys.length ≤ sizeLine then .ok (.none, false) (e1.set i (some (true, .list (xs ++ ys)))) else .bad
  | _, _ => .bad
def kExt (i : Nat) (r : D × Bool) (e1 : En) : Re (D × Bool) := kExt2 r.1 i e1 e1[i]?
def kEx0 (i : Nat) (m : X) (e : En) : Option (Option (Bool × D)) → Re (D × Bool)
  | some (some (_, .list _)) => (m e).bind (kExt i)
  | _ => .bad
theorem xExtend_eq (i : Nat) (m : X) (e : En) : xExtend i m e = kEx0 i m e e[i]? := by
  unfold xExtend isListAt kEx0
  split <;> simp_all <;> rfl
theorem kEx0_eq (i : Nat) (m : X) (e : En) (b : Bool) (xs : List D) : kEx0 i m e (some (some (b, .list xs))) = (m e).bind (kExt i) := rfl
theorem kExt_eq (i : Nat) (d : D) (b : Bool) (e : En) : kExt i (d, b) e = kExt2 d i e e[i]? := rfl
theorem kExt2_eq (i : Nat) (e : En) (xs ys : List D) (h : xs.length + ys.length ≤ sizeLine) : kExt2 (.list ys) i e (some (some (true, .list xs))) = .ok (.none, false) (e.set i (some (true, .list (xs ++ ys)))) := by simp [kExt2, h]
/-! pop, get -/
def kPop2 (i : Nat) (e1 : En) (k : Option D) (s : Option (Option (Bool × D))) : Re (D × Bool) := match k, s with
  | some (.int k), some (some (true, .list xs)) => if small63 k then (match L2.ixN xs.length k with
    | some j => (match xs[j]? with
      | some y => .ok (y, false) (e1.set i (some (true, .list (xs.eraseIdx j))))
      | none => .bad)
    | none => .bad) else .bad
  | _, _ => .bad
def kPop (i : Nat) (t : Tok) (e1 : En) : Re (D × Bool) := kPop2 i e1 (tget e1 t) e1[i]?
theorem kPop_eq (i : Nat) (t : Tok) (e : En) : kPop i t e = kPop2 i e (tget e t) e[i]? := rfl
def kPop0 (i : Nat) (p : Pk) (e : En) : Option (Option (Bool × D)) → Re (D × Bool)
  | some (some (_, .list _)) => (p.ev e).bind (kPop i)
  | _ => .bad
theorem xPop_eq (i : Nat) (p : Pk) (e : En) : xPop i p e = kPop0 i p e e[i]? := by
  unfold xPop isListAt kPop0
  split <;> simp_all <;> rfl
theorem kPop0_eq (i : Nat) (p : Pk) (e : En) (b : Bool) (xs : List D) : kPop0 i p e (some (some (b, .list xs))) = (p.ev e).bind (kPop i) := rfl
theorem pop_at {i : Nat} {e : En} {k : Int} {xs : List D} {j : Nat} {y : D} (hk : small63 k = true) (hj : L2.ixN xs.length k = some j) (hy : xs[j]? = some y) : kPop2 i e (some (.int k)) (some (some (true, .list xs))) = .ok (y, false) (e.set i (some (true, .list (xs.eraseIdx j)))) := by
  simp [kPop2, hk, hj, hy]
def kPopL (i : Nat) (e : En) : Option (Option (Bool × D)) → Re (D × Bool)
  | some (some (true, .list xs)) => (match xs[xs.length - 1]? with
    | some y => .ok (y, false) (e.set i (some (true, .list xs.dropLast)))
    | none => .bad)
  | _ => .bad
theorem xPop0_eq (i : Nat) (e : En) : xPop0 i e = kPopL i e e[i]? := by
  unfold xPop0 kPopL
  rfl
theorem kPopL_snoc (i : Nat) (e : En) (xs : List D) (y : D) : kPopL i e (some (some (true, .list (xs ++ [y])))) = .ok (y, false) (e.set i (some (true, .list xs))) := by
  simp [kPopL]
def kGet2 (f : Pr) (e : En) : Option (List D) → Re (D × Bool)
  | some ds => kOpt e (f ds)
  | none => .bad
theorem kGet2_eq (f : Pr) (e : En) (ds : List D) : kGet2 f e (some ds) = kOpt e (f ds) := rfl
def kGet1 (f : Pr) (t : Tok) (ts : List Tok) (e : En) : Re (D × Bool) := kGet2 f e (tgets e (t :: ts))
theorem kGet1_eq (f : Pr) (t : Tok) (ts : List Tok) (e : En) : kGet1 f t ts e = kGet2 f e (tgets e (t :: ts)) := rfl
def kGet0 (f : Pr) (ks : List Pk) (t : Tok) (e : En) : Option D → Re (D × Bool)
  | some (.dict _) => (evPks ks e).bind (kGet1 f t)
  | _ => .bad
theorem kGet0_eq (f : Pr) (ks : List Pk) (t : Tok) (e : En) (kvs : List (D × D)) : kGet0 f ks t e (some (.dict kvs)) = (evPks ks e).bind (kGet1 f t) := rfl
def kGet (f : Pr) (ks : List Pk) (t : Tok) (e : En) : Re (D × Bool) := kGet0 f ks t e (tget e t)
theorem kGet_eq (f : Pr) (ks : List Pk) (t : Tok) (e : En) : kGet f ks t e = kGet0 f ks t e (tget e t) := rfl
theorem xGet_eq (f : Pr) (p : Pk) (ks : List Pk) (e : En) : xGet f p ks e = (p.ev e).bind (kGet f ks) := by
  unfold xGet
  congr 1
/-! a slice -/
def asI : Option D → Option Int
  | some (.int i) => some i
  | _ => none
theorem asI_eq (i : Int) : asI (some (.int i)) = some i := rfl
def kI2 (e : En) : Option Int → Re (Option Int)
  | some i => .ok (some i) e
  | none => .bad
theorem kI2_eq (e : En) (i : Int) : kI2 e (some i) = .ok (some i) e := rfl
def kI (t : Tok) (e : En) : Re (Option Int) := kI2 e (asI (tget e t))
theorem kI_eq (t : Tok) (e : En) : kI t e = kI2 e (asI (tget e t)) := rfl
theorem evI_none (e : En) : evI none e = .ok none e := rfl
theorem evI_some (p : Pk) (e : En) : evI (some p) e = (p.ev e).bind kI := by
  simp only [evI]
  congr 1
  funext t e1
  simp only [kI]
  generalize tget e1 t = o
  rcases o with _ | d
  · rfl
  cases d <;> rfl
def kCut3 (i j : Option Int) (e : En) : Option D → Re (D × Bool)
  | some d => kOpt e (pCut d i j)
  | none => .bad
theorem kCut3_eq (i j : Option Int) (e : En) (d : D) : kCut3 i j e (some d) = kOpt e (pCut d i j) := rfl
def kCut2 (t : Tok) (i j : Option Int) (e : En) : Re (D × Bool) := kCut3 i j e (tget e t)
theorem kCut2_eq (t : Tok) (i j : Option Int) (e : En) : kCut2 t i j e = kCut3 i j e (tget e t) := rfl
def kCut1 (hi : Option Pk) (t : Tok) (i : Option Int) (e : En) : Re (D × Bool) := (evI hi e).bind (kCut2 t i)
theorem kCut1_eq (hi : Option Pk) (t : Tok) (i : Option Int) (e : En) : kCut1 hi t i e = (evI hi e).bind (kCut2 t i) := rfl
def kCut (lo hi : Option Pk) (t : Tok) (e : En) : Re (D × Bool) := (evI lo e).bind (kCut1 hi t)
theorem kCut_eq (lo hi : Option Pk) (t : Tok) (e : En) : kCut lo hi t e = (evI lo e).bind (kCut1 hi t) := rfl
theorem xCut_eq (p : Pk) (lo hi : Option Pk) (e : En) : xCut p lo hi e = (p.ev e).bind (kCut lo hi) := by
  unfold xCut
  congr 1
/-! statements -/
def kSeq (b : S) (f : Fl) (e1 : En) : Re Fl := match f with
  | .next => b e1
  | .ret d fr => .ok (.ret d fr) e1
theorem sSeq_eq (a b : S) (e : En) : sSeq a b e = (a e).bind (kSeq b) := rfl
theorem kSeq_n (b : S) (e : En) : kSeq b .next e = b e := rfl
theorem kSeq_r (b : S) (d : D) (fr : Bool) (e : En) : kSeq b (.ret d fr) e = .ok (.ret d fr) e := rfl
def kExpr (_ : D × Bool) (e : En) : Re Fl := .ok .next e
theorem sExpr_eq (m : X) (e : En) : sExpr m e = (m e).bind kExpr := rfl
theorem kExpr_eq (r : D × Bool) (e : En) : kExpr r e = .ok .next e := rfl
def kRet (r : D × Bool) (e : En) : Re Fl := .ok (.ret r.1 r.2) e
theorem sRet_eq (m : X) (e : En) : sRet m e = (m e).bind kRet := rfl
theorem kRet_eq (d : D) (b : Bool) (e : En) : kRet (d, b) e = .ok (.ret d b) e := rfl
theorem sRetN_eq (e : En) : sRetN e = .ok (.ret .none false) e := rfl
theorem sNil_eq (e : En) : sNil e = .ok .next e := rfl
def kIf (a b : S) (c : Bool) (e : En) : Re Fl := if c then a e else b e
theorem sIf_eq (t : T) (a b : S) (e : En) : sIf t a b e = (t e).bind (kIf a b) := rfl
theorem kIf_t (a b : S) (e : En) : kIf a b true e = a e := rfl
theorem kIf_f (a b : S) (e : En) : kIf a b false e = b e := rfl
def kAsg (i : Nat) (r : D × Bool) (e : En) : Re Fl := .ok .next (e.set i (some (r.2, r.1)))
theorem sAsg_eq (i : Nat) (m : X) (e : En) : sAsg i m e = (m e).bind (kAsg i) := rfl
theorem kAsg_eq (i : Nat) (d : D) (b : Bool) (e : En) : kAsg i (d, b) e = .ok .next (e.set i (some (b, d))) := rfl
def kPut : Option En → Re Fl
  | some e => .ok .next e
  | none => .bad
theorem kPut_eq (e : En) : kPut (some e) = .ok .next e := rfl
def kUnp (tg : Tg) (r : D × Bool) (e : En) : Re Fl := kPut (tg.put r.1 e)
theorem sUnp_eq (tg : Tg) (m : X) (e : En) : sUnp tg m e = (m e).bind (kUnp tg) := by
  unfold sUnp
  congr 1
theorem kUnp_eq (tg : Tg) (d : D) (b : Bool) (e : En) : kUnp tg (d, b) e = kPut (tg.put d e) := rfl
theorem put_nm (i : Nat) (d : D) (e : En) : Tg.put (.nm i) d e = some (e.set i (some (false, d))) := by simp [Tg.put]
theorem put_tup (ts : List Tg) (ds : List D) (e : En) : Tg.put (.tup ts) (.tuple ds) e = putAll ts ds e := by simp [Tg.put]
theorem putAll_nil (e : En) : putAll [] [] e = some e := by simp [putAll]
theorem putAll_nm (i : Nat) (ts : List Tg) (d : D) (ds : List D) (e : En) : putAll (.nm i :: ts) (d :: ds) e = putAll ts ds (e.set i (some (false, d))) := by simp [putAll, Tg.put]
def kPA (ts : List Tg) (ds : List D) : Option En → Option En
  | some e1 => putAll ts ds e1
  | none => none
theorem kPA_eq (ts : List Tg) (ds : List D) (e : En) : kPA ts ds (some e) = putAll ts ds e := rfl
theorem putAll_tup (us ts : List Tg) (xs ds : List D) (e : En) : putAll (.tup us :: ts) (.tuple xs :: ds) e = kPA ts ds (putAll us xs e) := by
  simp only [putAll, Tg.put, kPA]
  try (cases putAll us xs e <;> rfl)
def kFs2 (r : D × Bool) (rs : List (D × Bool)) (e : En) : Re (List (D × Bool)) := .ok (r :: rs) e
def kFs (ms : List X) (r : D × Bool) (e : En) : Re (List (D × Bool)) := (evFs ms e).bind (kFs2 r)
theorem r_fs_nil (e : En) : evFs [] e = .ok [] e := rfl
theorem r_fs_cons (m : X) (ms : List X) (e : En) : evFs (m :: ms) e = (m e).bind (kFs ms) := rfl
theorem kFs_eq (ms : List X) (r : D × Bool) (e : En) : kFs ms r e = (evFs ms e).bind (kFs2 r) := rfl
theorem kFs2_eq (r : D × Bool) (rs : List (D × Bool)) (e : En) : kFs2 r rs e = .ok (r :: rs) e := rfl
def kPar (is : List Nat) (rs : List (D × Bool)) (e : En) : Re Fl := .ok .next (setAll is rs e)
theorem sPar_eq (is : List Nat) (ms : List X) (e : En) : sPar is ms e = (evFs ms e).bind (kPar is) := rfl
theorem kPar_eq (is : List Nat) (rs : List (D × Bool)) (e : En) : kPar is rs e = .ok .next (setAll is rs e) := rfl
theorem setAll_nil (e : En) : setAll [] [] e = e := rfl
theorem setAll_cons (i : Nat) (is : List Nat) (d : D) (b : Bool) (rs : List (D × Bool)) (e : En) : setAll (i :: is) ((d, b) :: rs) e = setAll is rs (e.set i (some (b, d))) := rfl
def kAug3 (i : Nat) (a : Int) (r : D × Bool) (e : En) : Re Fl := match r.1 with
  | .int b => .ok .next (e.set i (some (false, .int (a + b))))
  | _ => .bad
def kAug2 (i : Nat) (m : X) (e : En) : Option (Option (Bool × D)) → Re Fl
  | some (some (_, .int a)) => (m e).bind (kAug3 i a)
  | _ => .bad
theorem sAug_eq (i : Nat) (m : X) (e : En) : sAug i m e = kAug2 i m e e[i]? := by
  unfold sAug kAug2
  rfl
theorem kAug2_eq (i : Nat) (m : X) (e : En) (b : Bool) (a : Int) : kAug2 i m e (some (some (b, .int a))) = (m e).bind (kAug3 i a) := rfl
theorem kAug3_eq (i : Nat) (a b : Int) (f : Bool) (e : En) : kAug3 i a (.int b, f) e = .ok .next (e.set i (some (false, .int (a + b)))) := rfl
def kFor (tg : Tg) (b : S) (ds : List D) (e : En) : Re Fl := forGo tg b ds e
theorem sFor_eq (it : It) (tg : Tg) (b : S) (e : En) : sFor it tg b e = (it.ev e).bind (kFor tg b) := rfl
theorem kFor_eq (tg : Tg) (b : S) (ds : List D) (e : En) : kFor tg b ds e = forGo tg b ds e := rfl
theorem sRaise_eq (c : Str) (e : En) : sRaise c e = .exc c e := rfl
def kTry (hs : List (List Str × D)) : Re Fl → Re Fl
  | .exc c e1 => (match hs.find? fun h => decide (c ∈ h.1) with
    | some h => .ok (.ret h.2 false) e1
    | none => .exc c e1)
  | r => r
theorem sTry_eq (b : S) (hs : List (List Str × D)) (e : En) : sTry b hs e = kTry hs (b e) := by
  unfold sTry kTry
  cases b e <;> rfl
theorem kTry_ok (hs : List (List Str × D)) (f : Fl) (e : En) : kTry hs (.ok f e) = .ok f e := rfl
theorem kTry_hit (c : Str) (cs : List Str) (v : D) (hs : List (List Str × D)) (e : En) : kTry ((c :: cs, v) :: hs) (.exc c e) = .ok (.ret v false) e := by simp [kTry]
theorem kTry_miss (c : Str) (cs : List Str) (v : D) (hs : List (List Str × D)) (e : En) (h : decide (c ∈ cs) = false) : kTry ((cs, v) :: hs) (.exc c e) = kTry hs (.exc c e) := by
  simp only [kTry, List.find?_cons, h]
/-- x[k] = v -/
def kPut3 (v : D) (i : Nat) (e : En) (k : Option D) (s : Option (Option (Bool × D))) : Re Fl := match k, s with
  | some (.int n), some (some (true, .list xs)) => (match L2.ixN xs.length n with
    | some j => .ok .next (e.set i (some (true, .list (xs.set j v))))
    | none => .bad)
  | some key, some (some (true, .dict kvs)) => if kFits kvs key && decide (kvs.length < sizeLine) then .ok .next (e.set i (some (true, .dict (dPut kvs key v)))) else .bad
  | _, _ => .bad
def kPut2 (v : D) (i : Nat) (t : Tok) (e : En) : Re Fl := kPut3 v i e (tget e t) e[i]?
def kPut1 (i : Nat) (k : Pk) (r : D × Bool) (e : En) : Re Fl := if isSetAt e i then (k.ev e).bind (kPut2 r.1 i) else .bad
theorem sPutI_eq (i : Nat) (k : Pk) (m : X) (e : En) : sPutI i k m e = (m e).bind (kPut1 i k) := by
  unfold sPutI
  congr 1
def kPu0 (i : Nat) (k : Pk) (d : D) (e : En) : Option (Option (Bool × D)) → Re Fl
  | some (some _) => (k.ev e).bind (kPut2 d i)
  | _ => .bad
theorem kPut1_eq (i : Nat) (k : Pk) (d : D) (b : Bool) (e : En) : kPut1 i k (d, b) e = kPu0 i k d e e[i]? := by
  unfold kPut1 isSetAt kPu0
  split <;> simp_all
theorem kPu0_eq (i : Nat) (k : Pk) (d : D) (e : En) (s : Bool × D) : kPu0 i k d e (some (some s)) = (k.ev e).bind (kPut2 d i) := rfl
theorem kPut2_eq (v : D) (i : Nat) (t : Tok) (e : En) : kPut2 v i t e = kPut3 v i e (tget e t) e[i]? := rfl
theorem kPut3_d (v : D) (i : Nat) (e : En) (k : D) (kvs : List (D × D)) (h : kFits kvs k = true) (h2 : kvs.length < sizeLine) : kPut3 v i e (some k) (some (some (true, .dict kvs))) = .ok .next (e.set i (some (true, .dict (dPut kvs k v)))) := by
  cases k <;> simp [kPut3, h, h2]
theorem kPut3_l (v : D) (i : Nat) (e : En) (n : Int) (xs : List D) (j : Nat) (h : L2.ixN xs.length n = some j) : kPut3 v i e (some (.int n)) (some (some (true, .list xs))) = .ok .next (e.set i (some (true, .list (xs.set j v)))) := by simp [kPut3, h]
/-! a def -/
def outs2 : Option (Option (Bool × D)) → Option (List D) → Option (List D)
  | some (some (true, d)), some ds => some (d :: ds)
  | _, _ => none
def kFn2 (f : Fl) : Option (List D) → FRe
  | some os => (match f with
    | .next => .ok .none false os
    | .ret d fr => .ok d fr os)
  | none => .bad
def kFn (io : List Nat) : Re Fl → FRe
  | .ok f e => kFn2 f (outsOf e io)
  | .exc c _ => .exc c
  | .bad => .bad
theorem fn_eq (n : Nat) (io : List Bool) (b : S) (ds : List D) (h : ds.length = io.length) : fnBody n io b ds = kFn (ioSlots 0 io) (b (startE n io ds)) := by
  unfold fnBody kFn
  rw [if_pos h]
  cases b (startE n io ds) with
  | ok f e =>
    simp only
    unfold kFn2
    rcases outsOf e (ioSlots 0 io) with _ | os
    · rfl
    · cases f <;> rfl
  | _ => rfl
theorem kFn_ok (io : List Nat) (f : Fl) (e : En) : kFn io (.ok f e) = kFn2 f (outsOf e io) := rfl
theorem kFn_ex (io : List Nat) (c : Str) (e : En) : kFn io (.exc c e) = .exc c := rfl
theorem kFn2_n (os : List D) : kFn2 .next (some os) = .ok .none false os := rfl
theorem kFn2_r (d : D) (fr : Bool) (os : List D) : kFn2 (.ret d fr) (some os) = .ok d fr os := rfl
theorem outs_nil (e : En) : outsOf e [] = some [] := rfl
theorem outs_cons (e : En) (i : Nat) (is : List Nat) : outsOf e (i :: is) = outs2 e[i]? (outsOf e is) := by
  simp only [outsOf, outs2]
  try (rcases e[i]? with _ | _ | ⟨b, d⟩ <;> first | rfl | (cases b <;> rcases outsOf e is with _ | _ <;> rfl))
theorem outs2_eq (d : D) (ds : List D) : outs2 (some (some (true, d))) (some ds) = some (d :: ds) := rfl
/-- the def of a name, at each level -/
def Has (T : Nat → Str → Fn) (x : Str) (N : Nat) (io : List Bool) (b : (Str → Fn) → S) : Prop := ∀ n, T (n + 1) x = fnBody N io (b (T n))
end G6

namespace G6
open PySem PySem.W
/-! ### comprehensions -/
def kLcE (r : D × Bool) (e : En) : Re (Option D) := .ok (some r.1) e
theorem kLcE_eq (d : D) (b : Bool) (e : En) : kLcE (d, b) e = .ok (some d) e := rfl
def kLcT (elt : X) (b : Bool) (e : En) : Re (Option D) := if b then (elt e).bind kLcE else .ok none e
theorem kLcT_eq (elt : X) (b : Bool) (e : En) : kLcT elt b e = if b then (elt e).bind kLcE else .ok none e := rfl
def wipeR {α : Type} (own : List Nat) : Re α → Re α
  | .ok a e => .ok a (wipeE e own)
  | .exc _ _ => .bad
  | .bad => .bad
theorem wipeR_ok {α : Type} (own : List Nat) (a : α) (e : En) : wipeR own (.ok a e) = .ok a (wipeE e own) := rfl
theorem wipeR_if {α : Type} (own : List Nat) (b : Bool) (x y : Re α) : wipeR own (if b then x else y) = if b then wipeR own x else wipeR own y := by cases b <;> rfl
def kLc (own : List Nat) (ts : List T) (elt : X) : Option En → Re (Option D)
  | some e1 => wipeR own ((allT ts e1).bind (kLcT elt))
  | none => .bad
theorem kLc_eq (own : List Nat) (ts : List T) (elt : X) (e : En) : kLc own ts elt (some e) = wipeR own ((allT ts e).bind (kLcT elt)) := rfl
/-- one turn: what is kept, the own slots forgotten -/
def lcOne (own : List Nat) (tg : Tg) (ts : List T) (elt : X) (d : D) (e : En) : Re (Option D) := kLc own ts elt (tg.put d e)
theorem lcOne_eq (own : List Nat) (tg : Tg) (ts : List T) (elt : X) (d : D) (e : En) : lcOne own tg ts elt d e = kLc own ts elt (tg.put d e) := rfl
theorem allT_nil (e : En) : allT [] e = .ok true e := rfl
def kAllT (ts : List T) (b : Bool) (e : En) : Re Bool := if b then allT ts e else .ok false e
theorem allT_cons (t : T) (ts : List T) (e : En) : allT (t :: ts) e = (t e).bind (kAllT ts) := rfl
theorem kAllT_nil (b : Bool) (e : En) : kAllT [] b e = .ok b e := by cases b <;> rfl
theorem wipe_nil (e : En) : wipeE e [] = e := rfl
theorem wipe_cons (e : En) (v : Nat) (vs : List Nat) : wipeE e (v :: vs) = (wipeE e vs).set v none := rfl
theorem lc_turn {own : List Nat} {tg : Tg} {ts : List T} {elt : X} {d : D} {e e0 : En} {o : Option D} (h : lcOne own tg ts elt d e = .ok o e0) (acc : List D) (ha : acc.length < sizeLine) :
    ∃ e1, lcTurn own tg ts elt d acc e = .ok (acc ++ o.toList) e1 ∧ wipeE e1 own = e0 := by
  unfold lcOne at h
  unfold lcTurn
  cases q : tg.put d e with
  | none => rw [q] at h; cases h
  | some e1 =>
    rw [q] at h
    simp only [kLc] at h
    simp only
    cases q2 : allT ts e1 with
    | ok b e2 =>
      rw [q2] at h
      simp only [Re.bind_ok, kLcT] at h ⊢
      cases b with
      | false =>
        simp only [Bool.false_eq_true, if_false, wipeR] at h ⊢
        cases h
        exact ⟨e2, by simp [Re.calm], rfl⟩
      | true =>
        simp only [if_true] at h ⊢
        cases q3 : elt e2 with
        | ok r e3 =>
          rw [q3] at h
          simp only [Re.bind_ok, kLcE, wipeR] at h ⊢
          cases h
          exact ⟨e3, by simp [Re.calm, ha], rfl⟩
        | exc c e3 => rw [q3] at h; cases h
        | bad => rw [q3] at h; cases h
    | exc c e2 => rw [q2] at h; cases h
    | bad => rw [q2] at h; cases h
theorem lc_go2 {α : Type} {own : List Nat} {tg : Tg} {ts : List T} {elt : X} {e : En} (enc : α → D) (f : α → Option D) : ∀ (xs : List α) (acc : List D), (∀ x ∈ xs, lcOne own tg ts elt (enc x) e = .ok (f x) e) → acc.length + xs.length ≤ sizeLine →
    lcGo own tg ts elt (xs.map enc) acc e = .ok (acc ++ xs.filterMap f) e
  | [], acc, _, _ => by simp [lcGo]
  | x :: xs, acc, h, hl => by
    simp only [List.length_cons] at hl
    obtain ⟨e1, h1, h2⟩ := lc_turn (h x List.mem_cons_self) acc (by omega)
    have hf : (f x).toList.length ≤ 1 := by cases f x <;> simp
    simp only [List.map_cons, lcGo, h1, Re.bind_ok, h2]
    rw [lc_go2 enc f xs (acc ++ (f x).toList) (fun y hy => h y (List.mem_cons_of_mem _ hy)) (by rw [List.length_append]; omega)]
    congr 1
    cases q : f x <;> simp [List.filterMap_cons, q]
/-- the own slots are free, and are so behind -/
def LcOk (own : List Nat) (e : En) : Prop := own.all (frozenAt e) = true ∧ wipeE e own = e ∧ backE e e own = e
theorem filterMap_if {α : Type} (p : α → Bool) (g : α → D) : ∀ xs : List α, xs.filterMap (fun x => if p x then some (g x) else none) = (xs.filter p).map g
  | [] => rfl
  | x :: xs => by
    cases h : p x <;> simp [List.filterMap_cons, h, filterMap_if p g xs]
/-- the walked rows are xs, encoded; what is kept: p; what is built: g -/
theorem lc_to {α : Type} (enc : α → D) (xs : List α) (p : α → Bool) (g : α → D) (e0 : En) {own : List Nat} {it : It} {tg : Tg} {ts : List T} {elt : X} {e : En} (hi : it.ev e = .ok (xs.map enc) e0) (hz : LcOk own e0)
    (ht : ∀ x ∈ xs, lcOne own tg ts elt (enc x) e0 = .ok (if p x then some (g x) else none) e0) (hl : xs.length ≤ sizeLine) : xLc own it tg ts elt e = .ok (.list ((xs.filter p).map g), true) e0 := by
  obtain ⟨h1, h2, h3⟩ := hz
  unfold xLc
  rw [hi]
  simp only [Re.bind_ok, h1, if_true]
  rw [h2, lc_go2 enc _ xs [] ht (by simpa using hl)]
  simp [h3, filterMap_if]
theorem lc {α : Type} (enc : α → D) (xs : List α) (p : α → Bool) (g : α → D) {own : List Nat} {it : It} {tg : Tg} {ts : List T} {elt : X} {e : En} (hi : it.ev e = .ok (xs.map enc) e) (hz : LcOk own e)
    (ht : ∀ x ∈ xs, lcOne own tg ts elt (enc x) e = .ok (if p x then some (g x) else none) e) (hl : xs.length ≤ sizeLine) : xLc own it tg ts elt e = .ok (.list ((xs.filter p).map g), true) e := lc_to enc xs p g e hi hz ht hl
/-- without a test -/
theorem lcm {α : Type} (enc : α → D) (xs : List α) (g : α → D) {own : List Nat} {it : It} {tg : Tg} {ts : List T} {elt : X} {e : En} (hi : it.ev e = .ok (xs.map enc) e) (hz : LcOk own e)
    (ht : ∀ x ∈ xs, lcOne own tg ts elt (enc x) e = .ok (some (g x)) e) (hl : xs.length ≤ sizeLine) : xLc own it tg ts elt e = .ok (.list (xs.map g), true) e := by
  have h := lc_to enc xs (fun _ => true) g e hi hz (fun x hx => by rw [ht x hx]; rfl) hl
  rw [List.filter_eq_self.mpr (fun _ _ => rfl)] at h
  exact h
theorem ite_ok {α : Type} (b : Bool) (x y : α) (e : En) : (if b then (.ok x e : Re α) else .ok y e) = .ok (if b then x else y) e := by cases b <;> rfl
theorem ite_tt {α : Type} (x y : α) : (if (true = true) then x else y) = x := rfl
/-! ### loops -/
def kOne (b : S) : Option En → Re Fl
  | some e1 => b e1
  | none => .bad
theorem kOne_eq (b : S) (e : En) : kOne b (some e) = b e := rfl
def forOne (tg : Tg) (b : S) (d : D) (e : En) : Re Fl := kOne b (tg.put d e)
theorem forOne_eq (tg : Tg) (b : S) (d : D) (e : En) : forOne tg b d e = kOne b (tg.put d e) := rfl
theorem forGo_nil (tg : Tg) (b : S) (e : En) : forGo tg b [] e = .ok .next e := rfl
def kGo (tg : Tg) (b : S) (ds : List D) (f : Fl) (e : En) : Re Fl := match f with
  | .next => forGo tg b ds e
  | .ret x fr => .ok (.ret x fr) e
theorem kGo_n (tg : Tg) (b : S) (ds : List D) (e : En) : kGo tg b ds .next e = forGo tg b ds e := rfl
theorem kGo_r (tg : Tg) (b : S) (ds : List D) (d : D) (fr : Bool) (e : En) : kGo tg b ds (.ret d fr) e = .ok (.ret d fr) e := rfl
theorem forGo_cons (tg : Tg) (b : S) (d : D) (ds : List D) (e : En) : forGo tg b (d :: ds) e = (forOne tg b d e).bind (kGo tg b ds) := by
  unfold forGo forOne kOne
  cases tg.put d e <;> rfl
/-- a loop whose turns go on -/
theorem for_fold {α σ : Type} {tg : Tg} {b : S} (enc : α → D) (E : σ → En → Prop) (f : σ → α → σ) : ∀ (xs : List α) (s : σ) (e : En), E s e → (∀ s e x, x ∈ xs → E s e → ∃ e2, forOne tg b (enc x) e = .ok .next e2 ∧ E (f s x) e2) →
    ∃ e', forGo tg b (xs.map enc) e = .ok .next e' ∧ E (xs.foldl f s) e'
  | [], s, e, h, _ => ⟨e, rfl, h⟩
  | x :: xs, s, e, h, ht => by
    obtain ⟨e2, h1, h2⟩ := ht s e x List.mem_cons_self h
    obtain ⟨e', h3, h4⟩ := for_fold enc E f xs (f s x) e2 h2 fun s e y hy => ht s e y (List.mem_cons_of_mem _ hy)
    refine ⟨e', ?_, h4⟩
    rw [List.map_cons, forGo_cons, h1]
    exact h3
/-- a loop by an invariant over what has been walked -/
theorem for_inv {α : Type} {tg : Tg} {b : S} (enc : α → D) (xs : List α) (P : List α → En → Prop) (e : En) (h0 : P [] e) (ht : ∀ (ys : List α) (x : α) (zs : List α) (e : En), xs = ys ++ x :: zs → P ys e → ∃ e2, forOne tg b (enc x) e = .ok .next e2 ∧ P (ys ++ [x]) e2) :
    ∃ e', forGo tg b (xs.map enc) e = .ok .next e' ∧ P xs e' := by
  have go : ∀ (zs ys : List α) (e : En), xs = ys ++ zs → P ys e → ∃ e', forGo tg b (zs.map enc) e = .ok .next e' ∧ P xs e' := by
    intro zs
    induction zs with
    | nil => intro ys e hx h; exact ⟨e, rfl, by rw [hx, List.append_nil]; exact h⟩
    | cons x zs ih =>
      intro ys e hx h
      obtain ⟨e2, h1, h2⟩ := ht ys x zs e hx h
      obtain ⟨e', h3, h4⟩ := ih (ys ++ [x]) e2 (by rw [hx]; simp) h2
      exact ⟨e', by rw [List.map_cons, forGo_cons, h1]; exact h3, h4⟩
  exact go xs [] e rfl h0
/-- a loop that may return: the first x with p ends it -/
theorem for_find {α : Type} {tg : Tg} {b : S} (enc : α → D) (E : En → Prop) (p : α → Bool) (r : α → D) (fr : Bool) : ∀ (xs : List α) (e : En), E e → (∀ e x, x ∈ xs → E e → ∃ e2, forOne tg b (enc x) e = .ok (if p x then .ret (r x) fr else .next) e2 ∧ E e2) →
    ∃ e', E e' ∧ forGo tg b (xs.map enc) e = .ok (match xs.find? p with | some x => .ret (r x) fr | none => .next) e'
  | [], e, h, _ => ⟨e, h, rfl⟩
  | x :: xs, e, h, ht => by
    obtain ⟨e2, h1, h2⟩ := ht e x List.mem_cons_self h
    rw [List.map_cons, forGo_cons, h1]
    cases q : p x with
    | true => exact ⟨e2, h2, by simp [List.find?_cons, q, kGo]⟩
    | false =>
      obtain ⟨e', h3, h4⟩ := for_find enc E p r fr xs e2 h2 fun e y hy => ht e y (List.mem_cons_of_mem _ hy)
      exact ⟨e', h3, by simpa [List.find?_cons, q, kGo] using h4⟩
theorem while_go {t : T} {b : S} {P : Nat → En → Prop} {Post : En → Prop} (h : ∀ k e, P k e → ∃ c e1, t e = .ok c e1 ∧ (c = false → Post e1) ∧ (c = true → ∃ e2 k', b e1 = .ok .next e2 ∧ k' < k ∧ P k' e2)) :
    ∀ (n k : Nat) (e : En), k < n → P k e → ∃ e', whileGo t b n e = .ok .next e' ∧ Post e'
  | 0, k, e, hk, _ => absurd hk (Nat.not_lt_zero _)
  | n + 1, k, e, hk, hp => by
    obtain ⟨c, e1, h1, h2, h3⟩ := h k e hp
    cases c with
    | false => exact ⟨e1, by simp [whileGo, h1], h2 rfl⟩
    | true =>
      obtain ⟨e2, k', h4, h5, h6⟩ := h3 rfl
      obtain ⟨e', h7, h8⟩ := while_go h n k' e2 (by omega) h6
      exact ⟨e', by simp [whileGo, h1, h4, h7], h8⟩
/-- a while by an invariant with a measure -/
theorem while_run {t : T} {b : S} (P : Nat → En → Prop) (Post : En → Prop) {k : Nat} {e : En} (hk : k < 1000000) (h0 : P k e) (h : ∀ k e, P k e → ∃ c e1, t e = .ok c e1 ∧ (c = false → Post e1) ∧ (c = true → ∃ e2 k', b e1 = .ok .next e2 ∧ k' < k ∧ P k' e2)) :
    ∃ e', sWhile t b e = .ok .next e' ∧ Post e' := while_go h wFuel k e hk h0
/-! ### the order of data -/
theorem dl_irrefl (a : D) : dataLt a a = false := PyProof.Rows.lex_irrefl (O := PyProof.Rows.itemOrd) _
theorem dl_trans {a b c : D} (h1 : dataLt a b = true) (h2 : dataLt b c = true) : dataLt a c = true := PyProof.Rows.lex_trans (O := PyProof.Rows.itemOrd) _ _ _ h1 h2
theorem dl_asymm {a b : D} (h1 : dataLt a b = true) : dataLt b a = false := by
  cases h : dataLt b a with
  | false => rfl
  | true =>
    have := dl_trans h1 h
    rw [dl_irrefl] at this
    cases this
abbrev le2 (a b : D) : Bool := !dataLt b a
theorem le2_trans (a b c : D) (h1 : le2 a b = true) (h2 : le2 b c = true) : le2 a c = true := by
  simp only [le2, Bool.not_eq_true'] at *
  cases q : dataLt c a with
  | false => rfl
  | true =>
    rcases PyProof.Rows.lex_negTrans (O := PyProof.Rows.itemOrd) (keyToks c) (keyToks b) (keyToks a) q with h | h
    · exact absurd (show dataLt c b = true from h) (by rw [h2]; exact Bool.false_ne_true)
    · exact absurd (show dataLt b a = true from h) (by rw [h1]; exact Bool.false_ne_true)
theorem le2_total (a b : D) : (le2 a b || le2 b a) = true := by
  simp only [le2]
  cases q : dataLt b a with
  | false => rfl
  | true => rw [dl_asymm q]; rfl
/-- sorted, by what the rows stand for -/
def sortE {α : Type} (enc : α → D) (xs : List α) : List α := xs.mergeSort fun a b => le2 (enc a) (enc b)
theorem sortD_map {α : Type} (enc : α → D) (xs : List α) : sortD (xs.map enc) = (sortE enc xs).map enc := by
  unfold sortD sortE
  exact (List.map_mergeSort (f := enc) (r := fun a b => le2 (enc a) (enc b)) (s := dataLe false fun d : D => d) fun _ _ _ _ => rfl).symm
theorem sortE_perm {α : Type} (enc : α → D) (xs : List α) : (sortE enc xs).Perm xs := List.mergeSort_perm _ _
theorem sortE_mem {α : Type} {enc : α → D} {xs : List α} {x : α} : x ∈ sortE enc xs ↔ x ∈ xs := (sortE_perm enc xs).mem_iff
theorem sortE_len {α : Type} (enc : α → D) (xs : List α) : (sortE enc xs).length = xs.length := (sortE_perm enc xs).length_eq
/-- strictly ascending -/
def Asc {α : Type} (enc : α → D) (xs : List α) : Prop := xs.Pairwise fun a b => dataLt (enc a) (enc b) = true
theorem sortE_le {α : Type} (enc : α → D) (xs : List α) : (sortE enc xs).Pairwise fun a b => le2 (enc a) (enc b) = true := by
  have h := List.pairwise_mergeSort (le := fun a b : α => le2 (enc a) (enc b)) (fun a b c => le2_trans _ _ _) (fun a b => le2_total _ _) xs
  exact h
theorem Asc.nodup {α : Type} {enc : α → D} {xs : List α} (h : Asc enc xs) : xs.Nodup := h.imp fun {a b} q e => by
  subst e
  rw [dl_irrefl] at q
  cases q
theorem Asc.lt_or {α : Type} {enc : α → D} {xs : List α} (h : Asc enc xs) {a b : α} (ha : a ∈ xs) (hb : b ∈ xs) (hne : a ≠ b) : dataLt (enc a) (enc b) = true ∨ dataLt (enc b) (enc a) = true := by
  induction h with
  | nil => cases ha
  | cons h1 _ ih =>
    rcases List.mem_cons.mp ha with e | ha
    · rcases List.mem_cons.mp hb with e2 | hb
      · exact absurd (e.trans e2.symm) hne
      · exact .inl (e ▸ h1 _ hb)
    · rcases List.mem_cons.mp hb with e2 | hb
      · exact .inr (e2 ▸ h1 _ ha)
      · exact ih ha hb
/-- an ascending rearrangement is what sorted gives -/
theorem sortE_eq {α : Type} {enc : α → D} {xs ys : List α} (p : xs.Perm ys) (h : Asc enc ys) : sortE enc xs = ys := by
  refine List.Perm.eq_of_pairwise (le := fun a b => le2 (enc a) (enc b) = true) (fun a b ha hb h1 h2 => ?_) (sortE_le enc xs) (h.imp fun {a b} q => ?_) ((sortE_perm enc xs).trans p)
  · by_cases e : a = b
    · exact e
    · have ha' : a ∈ ys := p.mem_iff.mp (sortE_mem.mp ha)
      simp only [le2, Bool.not_eq_true'] at h1 h2
      rcases h.lt_or ha' hb e with q | q
      · rw [h2] at q; cases q
      · rw [h1] at q; cases q
  · simp only [le2, dl_asymm q, Bool.not_false]
theorem sortE_self {α : Type} {enc : α → D} {xs : List α} (h : Asc enc xs) : sortE enc xs = xs := sortE_eq (.refl _) h
/-- data that are told apart by the order -/
def Tot {α : Type} (enc : α → D) : Prop := ∀ a b : α, a ≠ b → dataLt (enc a) (enc b) = true ∨ dataLt (enc b) (enc a) = true
theorem sortE_asc {α : Type} {enc : α → D} (t : Tot enc) {xs : List α} (h : xs.Nodup) : Asc enc (sortE enc xs) := by
  have nd : (sortE enc xs).Nodup := (sortE_perm enc xs).nodup_iff.mpr h
  refine (List.Pairwise.and nd (sortE_le enc xs)).imp fun {a b} q => ?_
  obtain ⟨q1, q2⟩ := q
  simp only [le2, Bool.not_eq_true'] at q2
  rcases t a b q1 with h | h
  · exact h
  · rw [q2] at h; cases h
theorem Asc.eq_of_mem {α : Type} {enc : α → D} {xs ys : List α} (hx : Asc enc xs) (hy : Asc enc ys) (h : ∀ a, a ∈ xs ↔ a ∈ ys) : xs = ys := by
  have p : xs.Perm ys := (List.perm_ext_iff_of_nodup hx.nodup hy.nodup).mpr h
  rw [← sortE_self hx]
  exact sortE_eq p hy
theorem Asc.filter {α : Type} {enc : α → D} {xs : List α} (h : Asc enc xs) (p : α → Bool) : Asc enc (xs.filter p) := List.Pairwise.filter p h
end G6

namespace G6
open PySem PySem.W
/-! ### data of names -/
def nlt (a b : Str) : Bool := dataLt (.str a) (.str b)
abbrev sT (xs : List Str) : D := .tuple (xs.map .str)
abbrev sL (xs : List Str) : D := .list (xs.map .str)
def pr (p : Str × Str) : D := .tuple [.str p.1, .str p.2]
theorem pr_eq (a b : Str) : pr (a, b) = .tuple [.str a, .str b] := rfl
abbrev pT (xs : List (Str × Str)) : D := .tuple (xs.map pr)
abbrev pL (xs : List (Str × Str)) : D := .list (xs.map pr)
/-! plain, depth -/
theorem plain_none : PyData.plain .none = true := by simp [PyData.plain]
theorem plain_bool (b : Bool) : PyData.plain (.bool b) = true := by simp [PyData.plain]
theorem plain_int (i : Int) : PyData.plain (.int i) = true := by simp [PyData.plain]
theorem plain_str (s : Str) : PyData.plain (.str s) = true := by simp [PyData.plain]
theorem r_plain_list (xs : List D) : PyData.plain (.list xs) = PyData.plainAll xs := by simp [PyData.plain]
theorem r_plain_tuple (xs : List D) : PyData.plain (.tuple xs) = PyData.plainAll xs := by simp [PyData.plain]
theorem plainAll_nil : PyData.plainAll [] = true := by simp [PyData.plainAll]
theorem plainAll_cons (x : D) (xs : List D) : PyData.plainAll (x :: xs) = (x.plain && PyData.plainAll xs) := by simp [PyData.plainAll]
theorem plainAll_map {α : Type} (enc : α → D) (h : ∀ a, (enc a).plain = true) : ∀ xs : List α, PyData.plainAll (xs.map enc) = true
  | [] => plainAll_nil
  | x :: xs => by rw [List.map_cons, plainAll_cons, h, plainAll_map enc h xs]; rfl
theorem plainAll_iff : ∀ xs : List D, PyData.plainAll xs = true ↔ ∀ x ∈ xs, x.plain = true
  | [] => by simp [plainAll_nil]
  | x :: xs => by rw [plainAll_cons, Bool.and_eq_true, plainAll_iff xs]; simp
theorem plainAll_app (xs ys : List D) : PyData.plainAll (xs ++ ys) = (PyData.plainAll xs && PyData.plainAll ys) := by
  rw [Bool.eq_iff_iff, Bool.and_eq_true, plainAll_iff, plainAll_iff, plainAll_iff]
  simp only [List.mem_append]
  exact ⟨fun h => ⟨fun x hx => h x (.inl hx), fun x hx => h x (.inr hx)⟩, fun h x hx => hx.elim (h.1 x) (h.2 x)⟩
theorem pr_plain (p : Str × Str) : (pr p).plain = true := by simp [pr, PyData.plain, PyData.plainAll]
theorem plainAll_strs (xs : List Str) : PyData.plainAll (xs.map .str) = true := plainAll_map _ plain_str xs
theorem plainAll_ints (xs : List Int) : PyData.plainAll (xs.map .int) = true := plainAll_map _ plain_int xs
theorem plainAll_prs (xs : List (Str × Str)) : PyData.plainAll (xs.map pr) = true := plainAll_map _ pr_plain xs
theorem sT_plain (xs : List Str) : (sT xs).plain = true := by rw [r_plain_tuple, plainAll_strs]
theorem plainAll_sTs (xs : List (List Str)) : PyData.plainAll (xs.map sT) = true := plainAll_map _ sT_plain xs
theorem depth_none : PyData.depth .none = 0 := by simp [PyData.depth]
theorem depth_bool (b : Bool) : PyData.depth (.bool b) = 0 := by simp [PyData.depth]
theorem depth_int (i : Int) : PyData.depth (.int i) = 0 := by simp [PyData.depth]
theorem depth_str (s : Str) : PyData.depth (.str s) = 0 := by simp [PyData.depth]
theorem depth_list (xs : List D) : PyData.depth (.list xs) = PyData.depthAll xs + 1 := by simp [PyData.depth]
theorem depth_tuple (xs : List D) : PyData.depth (.tuple xs) = PyData.depthAll xs + 1 := by simp [PyData.depth]
theorem depthAll_nil : PyData.depthAll [] = 0 := by simp [PyData.depthAll]
theorem depthAll_cons (x : D) (xs : List D) : PyData.depthAll (x :: xs) = max x.depth (PyData.depthAll xs) := by simp [PyData.depthAll]
theorem depthAll_le {n : Nat} : ∀ {xs : List D}, (∀ x ∈ xs, x.depth ≤ n) → PyData.depthAll xs ≤ n
  | [], _ => by rw [depthAll_nil]; omega
  | x :: xs, h => by
    have a := h x List.mem_cons_self
    have b := depthAll_le fun y hy => h y (List.mem_cons_of_mem _ hy)
    rw [depthAll_cons]
    omega
theorem depthAll_map_le {α : Type} (enc : α → D) {n : Nat} (h : ∀ a, (enc a).depth ≤ n) (xs : List α) : PyData.depthAll (xs.map enc) ≤ n := depthAll_le fun x hx => by
  obtain ⟨a, _, rfl⟩ := List.mem_map.mp hx
  exact h a
theorem depthAll_strs (xs : List Str) : PyData.depthAll (xs.map .str) ≤ 0 := depthAll_map_le _ (fun a => by rw [depth_str]; exact Nat.le_refl _) xs
theorem pr_depth (p : Str × Str) : (pr p).depth ≤ 1 := by simp [pr, PyData.depth, PyData.depthAll]
theorem depthAll_prs (xs : List (Str × Str)) : PyData.depthAll (xs.map pr) ≤ 1 := depthAll_map_le _ pr_depth xs
theorem sT_depth (xs : List Str) : (sT xs).depth ≤ 1 := by
  have := depthAll_strs xs
  rw [depth_tuple]
  omega
theorem depthAll_sTs (xs : List (List Str)) : PyData.depthAll (xs.map sT) ≤ 1 := depthAll_map_le _ sT_depth xs
/-! equality -/
theorem eqv_str (a b : Str) : PyData.eqv (.str a) (.str b) = decide (a = b) := by
  rw [show PyData.eqv (.str a) (.str b) = (a == b) by simp [PyData.eqv]]
  by_cases h : a = b <;> simp [h]
theorem eqv_int (a b : Int) : PyData.eqv (.int a) (.int b) = decide (a = b) := by
  rw [show PyData.eqv (.int a) (.int b) = (a == b) by simp [PyData.eqv]]
  by_cases h : a = b <;> simp [h]
theorem eqv_bool (a b : Bool) : PyData.eqv (.bool a) (.bool b) = decide (a = b) := by
  rw [show PyData.eqv (.bool a) (.bool b) = (a == b) by simp [PyData.eqv]]
  by_cases h : a = b <;> simp [h]
theorem eqv_tuple (xs ys : List D) : PyData.eqv (.tuple xs) (.tuple ys) = PyData.eqvAll xs ys := by simp [PyData.eqv]
theorem eqv_list (xs ys : List D) : PyData.eqv (.list xs) (.list ys) = PyData.eqvAll xs ys := by simp [PyData.eqv]
theorem eqvAll_map {α : Type} [DecidableEq α] (enc : α → D) (h : ∀ a b, PyData.eqv (enc a) (enc b) = decide (a = b)) : ∀ xs ys : List α, PyData.eqvAll (xs.map enc) (ys.map enc) = decide (xs = ys)
  | [], [] => by simp [PyData.eqvAll]
  | [], y :: ys => by simp [PyData.eqvAll]
  | x :: xs, [] => by simp [PyData.eqvAll]
  | x :: xs, y :: ys => by
    simp only [List.map_cons, PyData.eqvAll, h, eqvAll_map enc h xs ys, List.cons.injEq, Bool.decide_and]
theorem eqv_pr (p q : Str × Str) : PyData.eqv (pr p) (pr q) = decide (p = q) := by
  obtain ⟨a, b⟩ := p
  obtain ⟨c, d⟩ := q
  simp only [pr, eqv_tuple, PyData.eqvAll, Prod.mk.injEq, Bool.decide_and, Bool.and_true, eqv_str]
theorem eqv_sT (xs ys : List Str) : PyData.eqv (sT xs) (sT ys) = decide (xs = ys) := by
  rw [eqv_tuple]
  exact eqvAll_map _ eqv_str xs ys
theorem any_eqv {α : Type} [DecidableEq α] (enc : α → D) (h : ∀ a b, PyData.eqv (enc a) (enc b) = decide (a = b)) (x : α) (xs : List α) [Decidable (x ∈ xs)] : ((xs.map enc).any fun y => PyData.eqv y (enc x)) = decide (x ∈ xs) := by
  rw [Bool.eq_iff_iff]
  simp only [List.any_map, List.any_eq_true, Function.comp, h, decide_eq_true_eq]
  exact ⟨fun ⟨y, hy, e⟩ => e ▸ hy, fun hx => ⟨x, hx, rfl⟩⟩
/-! isinstance -/
def isTy (t : Ty) (d : D) : Bool := match t with
  | .int => d.isInt
  | .bool => d.isBool
  | .str => d.isStr
  | .tuple => d.isTuple
  | .list => d.isList
theorem pIsi_eq (t : Ty) (d : D) (h : d.plain = true) : pIsi t [d] = some (.bool (isTy t d), false) := by
  simp only [pIsi, h, isTy]
  rfl
theorem isTy_tt (xs : List D) : isTy .tuple (.tuple xs) = true := rfl
theorem isTy_tl (xs : List D) : isTy .tuple (.list xs) = false := rfl
theorem isTy_ts (s : Str) : isTy .tuple (.str s) = false := rfl
theorem isTy_ti (i : Int) : isTy .tuple (.int i) = false := rfl
theorem isTy_tb (b : Bool) : isTy .tuple (.bool b) = false := rfl
theorem isTy_tn : isTy .tuple .none = false := rfl
theorem isTy_st (xs : List D) : isTy .str (.tuple xs) = false := rfl
theorem isTy_sl (xs : List D) : isTy .str (.list xs) = false := rfl
theorem isTy_ss (s : Str) : isTy .str (.str s) = true := rfl
theorem isTy_si (i : Int) : isTy .str (.int i) = false := rfl
theorem isTy_sb (b : Bool) : isTy .str (.bool b) = false := rfl
theorem isTy_sn : isTy .str .none = false := rfl
theorem isTy_it (xs : List D) : isTy .int (.tuple xs) = false := rfl
theorem isTy_il (xs : List D) : isTy .int (.list xs) = false := rfl
theorem isTy_is (s : Str) : isTy .int (.str s) = false := rfl
theorem isTy_ii (i : Int) : isTy .int (.int i) = true := rfl
theorem isTy_ib (b : Bool) : isTy .int (.bool b) = true := rfl
theorem isTy_in : isTy .int .none = false := rfl
theorem isTy_bt (xs : List D) : isTy .bool (.tuple xs) = false := rfl
theorem isTy_bl (xs : List D) : isTy .bool (.list xs) = false := rfl
theorem isTy_bs (s : Str) : isTy .bool (.str s) = false := rfl
theorem isTy_bi (i : Int) : isTy .bool (.int i) = false := rfl
theorem isTy_bb (b : Bool) : isTy .bool (.bool b) = true := rfl
theorem isTy_bn : isTy .bool .none = false := rfl
/-! primitives -/
theorem pLen_list (xs : List D) : pLen [.list xs] = some (.int xs.length, false) := rfl
theorem pLen_tuple (xs : List D) : pLen [.tuple xs] = some (.int xs.length, false) := rfl
theorem pLen_dict (xs : List (D × D)) : pLen [.dict xs] = some (.int xs.length, false) := rfl
theorem pLen_str (s : Str) (h : s.length ≤ sizeLine) : pLen [.str s] = some (.int s.length, false) := by simp [pLen, h]
theorem pAdd_int (i j : Int) : pAdd [.int i, .int j] = some (.int (i + j), false) := rfl
theorem pAdd_list (a b : List D) (h : a.length + b.length ≤ sizeLine) : pAdd [.list a, .list b] = some (.list (a ++ b), true) := by simp [pAdd, h]
theorem pAdd_tuple (a b : List D) (h : a.length + b.length ≤ sizeLine) : pAdd [.tuple a, .tuple b] = some (.tuple (a ++ b), false) := by simp [pAdd, h]
theorem pSub_int (i j : Int) : pSub [.int i, .int j] = some (.int (i - j), false) := rfl
theorem pNeg_int (i : Int) : pNeg [.int i] = some (.int (-i), false) := rfl
theorem pAbs_int (i : Int) : pAbs [.int i] = some (.int (if i < 0 then -i else i), false) := rfl
theorem pMod_int (i j : Int) (h : j ≠ 0) : pMod [.int i, .int j] = some (.int (i.fmod j), false) := by simp [pMod, h]
theorem pEq_eq (a b : D) (h1 : a.plain = true) (h2 : b.plain = true) (h3 : min a.depth b.depth ≤ 60) : pEq [a, b] = some (.bool (PyData.eqv a b), false) := by
  simp [pEq, h1, h2, shal, h3]
theorem pNe_eq (a b : D) (h1 : a.plain = true) (h2 : b.plain = true) (h3 : min a.depth b.depth ≤ 60) : pNe [a, b] = some (.bool (!PyData.eqv a b), false) := by
  simp [pNe, h1, h2, shal, h3]
theorem pEq_str (a b : Str) : pEq [.str a, .str b] = some (.bool (decide (a = b)), false) := by
  rw [pEq_eq _ _ (plain_str _) (plain_str _) (by rw [depth_str, depth_str]; decide), eqv_str]
theorem pNe_str (a b : Str) : pNe [.str a, .str b] = some (.bool (!decide (a = b)), false) := by
  rw [pNe_eq _ _ (plain_str _) (plain_str _) (by rw [depth_str, depth_str]; decide), eqv_str]
theorem pEq_int (a b : Int) : pEq [.int a, .int b] = some (.bool (decide (a = b)), false) := by
  rw [pEq_eq _ _ (plain_int _) (plain_int _) (by rw [depth_int, depth_int]; decide), eqv_int]
theorem pNe_int (a b : Int) : pNe [.int a, .int b] = some (.bool (!decide (a = b)), false) := by
  rw [pNe_eq _ _ (plain_int _) (plain_int _) (by rw [depth_int, depth_int]; decide), eqv_int]
theorem pEq_bool (a b : Bool) : pEq [.bool a, .bool b] = some (.bool (decide (a = b)), false) := by
  rw [pEq_eq _ _ (plain_bool _) (plain_bool _) (by rw [depth_bool, depth_bool]; decide), eqv_bool]
theorem pNe_bool (a b : Bool) : pNe [.bool a, .bool b] = some (.bool (!decide (a = b)), false) := by
  rw [pNe_eq _ _ (plain_bool _) (plain_bool _) (by rw [depth_bool, depth_bool]; decide), eqv_bool]
theorem min_le {a b n : Nat} (h : a ≤ n) : min a b ≤ n := by omega
theorem pEq_sT (a b : List Str) : pEq [.tuple (a.map .str), .tuple (b.map .str)] = some (.bool (decide (a = b)), false) := by
  rw [pEq_eq _ _ (sT_plain _) (sT_plain _) (min_le (by have := sT_depth a; omega)), eqv_sT]
theorem pNe_sT (a b : List Str) : pNe [.tuple (a.map .str), .tuple (b.map .str)] = some (.bool (!decide (a = b)), false) := by
  rw [pNe_eq _ _ (sT_plain _) (sT_plain _) (min_le (by have := sT_depth a; omega)), eqv_sT]
theorem pEq_sL (a b : List Str) : pEq [.list (a.map .str), .list (b.map .str)] = some (.bool (decide (a = b)), false) := by
  rw [pEq_eq _ _ (by rw [r_plain_list, plainAll_strs]) (by rw [r_plain_list, plainAll_strs]) (min_le (by have := depthAll_strs a; rw [depth_list]; omega)), eqv_list, eqvAll_map _ eqv_str]
theorem pNe_sL (a b : List Str) : pNe [.list (a.map .str), .list (b.map .str)] = some (.bool (!decide (a = b)), false) := by
  rw [pNe_eq _ _ (by rw [r_plain_list, plainAll_strs]) (by rw [r_plain_list, plainAll_strs]) (min_le (by have := depthAll_strs a; rw [depth_list]; omega)), eqv_list, eqvAll_map _ eqv_str]
theorem pEq_pL (a b : List (Str × Str)) : pEq [.list (a.map pr), .list (b.map pr)] = some (.bool (decide (a = b)), false) := by
  rw [pEq_eq _ _ (by rw [r_plain_list, plainAll_prs]) (by rw [r_plain_list, plainAll_prs]) (min_le (by have := depthAll_prs a; rw [depth_list]; omega)), eqv_list, eqvAll_map _ eqv_pr]
theorem pNe_pL (a b : List (Str × Str)) : pNe [.list (a.map pr), .list (b.map pr)] = some (.bool (!decide (a = b)), false) := by
  rw [pNe_eq _ _ (by rw [r_plain_list, plainAll_prs]) (by rw [r_plain_list, plainAll_prs]) (min_le (by have := depthAll_prs a; rw [depth_list]; omega)), eqv_list, eqvAll_map _ eqv_pr]
theorem pEq_sTL (a b : List (List Str)) : pEq [.list (a.map sT), .list (b.map sT)] = some (.bool (decide (a = b)), false) := by
  rw [pEq_eq _ _ (by rw [r_plain_list, plainAll_sTs]) (by rw [r_plain_list, plainAll_sTs]) (min_le (by have := depthAll_sTs a; rw [depth_list]; omega)), eqv_list, eqvAll_map _ eqv_sT]
theorem pNe_sTL (a b : List (List Str)) : pNe [.list (a.map sT), .list (b.map sT)] = some (.bool (!decide (a = b)), false) := by
  rw [pNe_eq _ _ (by rw [r_plain_list, plainAll_sTs]) (by rw [r_plain_list, plainAll_sTs]) (min_le (by have := depthAll_sTs a; rw [depth_list]; omega)), eqv_list, eqvAll_map _ eqv_sT]
theorem cmpOk_int (a b : Int) : cmpOk (.int a) (.int b) = true := by
  simp [cmpOk, PyData.plain, alike, isNone, shal, PyData.depth]
theorem cmpOk_str (a b : Str) : cmpOk (.str a) (.str b) = true := by
  simp [cmpOk, PyData.plain, alike, isNone, shal, PyData.depth]
theorem pLt_int (a b : Int) : pLt [.int a, .int b] = some (.bool (decide (a < b)), false) := by simp [pLt, cmpOk_int, dataLt_int]
theorem pGt_int (a b : Int) : pGt [.int a, .int b] = some (.bool (decide (b < a)), false) := by simp [pGt, cmpOk_int, dataLt_int]
theorem pLe_int (a b : Int) : pLe [.int a, .int b] = some (.bool (decide (a ≤ b)), false) := by
  simp only [pLe, cmpOk_int, dataLt_int, if_true]
  congr 3
  by_cases h : a ≤ b
  · simp [h]
  · simp [h]; omega
theorem pGe_int (a b : Int) : pGe [.int a, .int b] = some (.bool (decide (b ≤ a)), false) := by
  simp only [pGe, cmpOk_int, dataLt_int, if_true]
  congr 3
  by_cases h : b ≤ a
  · simp [h]
  · simp [h]; omega
theorem pLt_str (a b : Str) : pLt [.str a, .str b] = some (.bool (nlt a b), false) := by simp [pLt, cmpOk_str, nlt]
theorem pGt_str (a b : Str) : pGt [.str a, .str b] = some (.bool (nlt b a), false) := by simp [pGt, cmpOk_str, nlt]
theorem pLe_str (a b : Str) : pLe [.str a, .str b] = some (.bool (!nlt b a), false) := by simp [pLe, cmpOk_str, nlt]
theorem pGe_str (a b : Str) : pGe [.str a, .str b] = some (.bool (!nlt a b), false) := by simp [pGe, cmpOk_str, nlt]
theorem inOk_map {α : Type} (enc : α → D) (h : ∀ a, (enc a).plain = true) (hd : ∀ a, (enc a).depth ≤ 60) (x : α) (xs : List α) : inOk (enc x) (xs.map enc) = true := by
  have := hd x
  simp only [inOk, h, plainAll_map enc h, Bool.and_self, Bool.true_and, decide_eq_true_eq]
  omega
theorem pIn_list {α : Type} [DecidableEq α] (enc : α → D) (h : ∀ a, (enc a).plain = true) (hd : ∀ a, (enc a).depth ≤ 60) (he : ∀ a b, PyData.eqv (enc a) (enc b) = decide (a = b)) (x : α) (xs : List α) [Decidable (x ∈ xs)] : pIn [enc x, .list (xs.map enc)] = some (.bool (decide (x ∈ xs)), false) := by
  simp only [pIn, inOk_map enc h hd, if_true, any_eqv enc he]
theorem pIn_tuple {α : Type} [DecidableEq α] (enc : α → D) (h : ∀ a, (enc a).plain = true) (hd : ∀ a, (enc a).depth ≤ 60) (he : ∀ a b, PyData.eqv (enc a) (enc b) = decide (a = b)) (x : α) (xs : List α) [Decidable (x ∈ xs)] : pIn [enc x, .tuple (xs.map enc)] = some (.bool (decide (x ∈ xs)), false) := by
  simp only [pIn, inOk_map enc h hd, if_true, any_eqv enc he]
theorem pNin_list {α : Type} [DecidableEq α] (enc : α → D) (h : ∀ a, (enc a).plain = true) (hd : ∀ a, (enc a).depth ≤ 60) (he : ∀ a b, PyData.eqv (enc a) (enc b) = decide (a = b)) (x : α) (xs : List α) [Decidable (x ∈ xs)] : pNin [enc x, .list (xs.map enc)] = some (.bool (!decide (x ∈ xs)), false) := by
  simp only [pNin, inOk_map enc h hd, if_true, any_eqv enc he]
theorem pNin_tuple {α : Type} [DecidableEq α] (enc : α → D) (h : ∀ a, (enc a).plain = true) (hd : ∀ a, (enc a).depth ≤ 60) (he : ∀ a b, PyData.eqv (enc a) (enc b) = decide (a = b)) (x : α) (xs : List α) [Decidable (x ∈ xs)] : pNin [enc x, .tuple (xs.map enc)] = some (.bool (!decide (x ∈ xs)), false) := by
  simp only [pNin, inOk_map enc h hd, if_true, any_eqv enc he]
theorem str_d (a : Str) : (PyData.str a).depth ≤ 60 := by rw [depth_str]; decide
theorem pr_d (p : Str × Str) : (pr p).depth ≤ 60 := Nat.le_trans (pr_depth p) (by decide)
theorem sT_d (p : List Str) : (sT p).depth ≤ 60 := Nat.le_trans (sT_depth p) (by decide)
theorem pIn_sT (a : Str) (xs : List Str) : pIn [.str a, .tuple (xs.map .str)] = some (.bool (decide (a ∈ xs)), false) := pIn_tuple _ plain_str str_d eqv_str a xs
theorem pIn_sL (a : Str) (xs : List Str) : pIn [.str a, .list (xs.map .str)] = some (.bool (decide (a ∈ xs)), false) := pIn_list _ plain_str str_d eqv_str a xs
theorem pNin_sT (a : Str) (xs : List Str) : pNin [.str a, .tuple (xs.map .str)] = some (.bool (!decide (a ∈ xs)), false) := pNin_tuple _ plain_str str_d eqv_str a xs
theorem pNin_sL (a : Str) (xs : List Str) : pNin [.str a, .list (xs.map .str)] = some (.bool (!decide (a ∈ xs)), false) := pNin_list _ plain_str str_d eqv_str a xs
theorem pIn_pT (a b : Str) (xs : List (Str × Str)) : pIn [.tuple [.str a, .str b], .tuple (xs.map pr)] = some (.bool (decide ((a, b) ∈ xs)), false) := pIn_tuple _ pr_plain pr_d eqv_pr (a, b) xs
theorem pIn_pL (a b : Str) (xs : List (Str × Str)) : pIn [.tuple [.str a, .str b], .list (xs.map pr)] = some (.bool (decide ((a, b) ∈ xs)), false) := pIn_list _ pr_plain pr_d eqv_pr (a, b) xs
theorem pNin_pT (a b : Str) (xs : List (Str × Str)) : pNin [.tuple [.str a, .str b], .tuple (xs.map pr)] = some (.bool (!decide ((a, b) ∈ xs)), false) := pNin_tuple _ pr_plain pr_d eqv_pr (a, b) xs
theorem pNin_pL (a b : Str) (xs : List (Str × Str)) : pNin [.tuple [.str a, .str b], .list (xs.map pr)] = some (.bool (!decide ((a, b) ∈ xs)), false) := pNin_list _ pr_plain pr_d eqv_pr (a, b) xs
theorem pIn_pT' (p : Str × Str) (xs : List (Str × Str)) : pIn [pr p, .tuple (xs.map pr)] = some (.bool (decide (p ∈ xs)), false) := pIn_tuple _ pr_plain pr_d eqv_pr p xs
theorem pIn_pL' (p : Str × Str) (xs : List (Str × Str)) : pIn [pr p, .list (xs.map pr)] = some (.bool (decide (p ∈ xs)), false) := pIn_list _ pr_plain pr_d eqv_pr p xs
theorem pNin_pT' (p : Str × Str) (xs : List (Str × Str)) : pNin [pr p, .tuple (xs.map pr)] = some (.bool (!decide (p ∈ xs)), false) := pNin_tuple _ pr_plain pr_d eqv_pr p xs
theorem pNin_pL' (p : Str × Str) (xs : List (Str × Str)) : pNin [pr p, .list (xs.map pr)] = some (.bool (!decide (p ∈ xs)), false) := pNin_list _ pr_plain pr_d eqv_pr p xs
theorem pIn_sTL (p : List Str) (xs : List (List Str)) : pIn [.tuple (p.map .str), .list (xs.map sT)] = some (.bool (decide (p ∈ xs)), false) := pIn_list _ sT_plain sT_d eqv_sT p xs
theorem pNin_sTL (p : List Str) (xs : List (List Str)) : pNin [.tuple (p.map .str), .list (xs.map sT)] = some (.bool (!decide (p ∈ xs)), false) := pNin_list _ sT_plain sT_d eqv_sT p xs
theorem pIn_sTT (p : List Str) (xs : List (List Str)) : pIn [.tuple (p.map .str), .tuple (xs.map sT)] = some (.bool (decide (p ∈ xs)), false) := pIn_tuple _ sT_plain sT_d eqv_sT p xs
theorem pNin_sTT (p : List Str) (xs : List (List Str)) : pNin [.tuple (p.map .str), .tuple (xs.map sT)] = some (.bool (!decide (p ∈ xs)), false) := pNin_tuple _ sT_plain sT_d eqv_sT p xs
theorem pIs_none (d : D) : pIs [d, .none] = some (.bool (isNone d), false) := by cases d <;> rfl
theorem pIsn_none (d : D) : pIsn [d, .none] = some (.bool (!isNone d), false) := by cases d <;> rfl
theorem atI_nat {α : Type} (xs : List α) (k : Nat) : L2.atI xs (k : Int) = xs[k]? := by
  unfold L2.atI L2.ixN
  rw [if_pos (by omega)]
  by_cases h : (k : Int) < xs.length
  · rw [if_pos h]; simp
  · rw [if_neg h]
    rw [List.getElem?_eq_none (by omega)]
    rfl
theorem pIx_t0 (x : D) (xs : List D) : pIx [.tuple (x :: xs), .int 0] = some (x, false) := by
  show (L2.atI (x :: xs) ((0 : Nat) : Int)).map _ = _
  rw [atI_nat]; rfl
theorem pIx_t1 (x y : D) (xs : List D) : pIx [.tuple (x :: y :: xs), .int 1] = some (y, false) := by
  show (L2.atI (x :: y :: xs) ((1 : Nat) : Int)).map _ = _
  rw [atI_nat]; rfl
theorem pIx_t2 (x y z : D) (xs : List D) : pIx [.tuple (x :: y :: z :: xs), .int 2] = some (z, false) := by
  show (L2.atI (x :: y :: z :: xs) ((2 : Nat) : Int)).map _ = _
  rw [atI_nat]; rfl
theorem pIx_mt0 {α : Type} (enc : α → D) (x : α) (xs : List α) : pIx [.tuple ((x :: xs).map enc), .int 0] = some (enc x, false) := pIx_t0 _ _
theorem pIx_ml0 {α : Type} (enc : α → D) (x : α) (xs : List α) : pIx [.list ((x :: xs).map enc), .int 0] = some (enc x, false) := by
  show (L2.atI (enc x :: xs.map enc) ((0 : Nat) : Int)).map _ = _
  rw [atI_nat]; rfl
theorem pIx_l0 (x : D) (xs : List D) : pIx [.list (x :: xs), .int 0] = some (x, false) := by
  show (L2.atI (x :: xs) ((0 : Nat) : Int)).map _ = _
  rw [atI_nat]; rfl
theorem pIx_ln (xs : List D) (k : Nat) (d : D) (h : xs[k]? = some d) : pIx [.list xs, .int (k : Int)] = some (d, false) := by
  simp only [pIx, atI_nat, h, Option.map_some]
theorem pIx_tn (xs : List D) (k : Nat) (d : D) (h : xs[k]? = some d) : pIx [.tuple xs, .int (k : Int)] = some (d, false) := by
  simp only [pIx, atI_nat, h, Option.map_some]
theorem pIx_d (kvs : List (D × D)) (k v : D) (h : kFits kvs k = true) (h2 : dLook kvs k = some v) : pIx [.dict kvs, k] = some (v, false) := by
  cases k <;> simp [pIx, h, h2]
theorem blsOf_map {α : Type} (p : α → Bool) : ∀ xs : List α, blsOf (xs.map fun x => PyData.bool (p x)) = some (xs.map p)
  | [] => rfl
  | x :: xs => by simp [blsOf, blsOf_map p xs]
theorem pAll_map {α : Type} (p : α → Bool) (xs : List α) : pAll [.list (xs.map fun x => PyData.bool (p x))] = some (.bool (xs.all p), false) := by
  simp [pAll, blsOf_map, List.all_map]
theorem pAny_map {α : Type} (p : α → Bool) (xs : List α) : pAny [.list (xs.map fun x => PyData.bool (p x))] = some (.bool (xs.any p), false) := by
  simp [pAny, blsOf_map, List.any_map]
theorem pAll_two (a b : Bool) : pAll [.list [.bool a, .bool b]] = some (.bool (a && b), false) := by simp [pAll, blsOf]
theorem pAny_two (a b : Bool) : pAny [.list [.bool a, .bool b]] = some (.bool (a || b), false) := by simp [pAny, blsOf]
theorem pTuple_list (xs : List D) : pTuple [.list xs] = some (.tuple xs, false) := rfl
theorem pTuple_tuple (xs : List D) : pTuple [.tuple xs] = some (.tuple xs, false) := rfl
theorem pList_list (xs : List D) : pList [.list xs] = some (.list xs, true) := rfl
theorem pList_tuple (xs : List D) : pList [.tuple xs] = some (.list xs, true) := rfl
theorem pInt_bool (b : Bool) : pInt [.bool b] = some (.int (if b then 1 else 0), false) := rfl
theorem pInt_int (i : Int) : pInt [.int i] = some (.int i, false) := rfl
theorem pMax2_int (i j : Int) : pMax2 [.int i, .int j] = some (.int (if j > i then j else i), false) := rfl
theorem pMin2_int (i j : Int) : pMin2 [.int i, .int j] = some (.int (if j < i then j else i), false) := rfl
theorem pRev_list (xs : List D) : pRev [.list xs] = some (.list xs.reverse, true) := rfl
theorem pRev_tuple (xs : List D) : pRev [.tuple xs] = some (.tuple xs.reverse, false) := rfl
theorem pCut_list (xs : List D) (i j : Option Int) : pCut (.list xs) i j = some (.list (cutL xs i j), true) := rfl
theorem pCut_tuple (xs : List D) (i j : Option Int) : pCut (.tuple xs) i j = some (.tuple (cutL xs i j), false) := rfl
theorem cutL_to {α : Type} (xs : List α) (k : Nat) : cutL xs none (some (k : Int)) = xs.take k := by
  unfold cutL
  rw [HT.sIx_nat, HT.sIx_none]
  simp only [List.drop_zero, Nat.sub_zero]
  rw [List.take_eq_take_iff]
  omega
theorem cutL_from {α : Type} (xs : List α) (k : Nat) : cutL xs (some (k : Int)) none = xs.drop k := by
  unfold cutL
  rw [HT.sIx_nat, HT.sIx_none]
  rcases Nat.le_total k xs.length with h | h
  · rw [Nat.min_eq_left h, List.take_of_length_le (by rw [List.length_drop]; omega)]
  · rw [Nat.min_eq_right h, List.drop_length, List.drop_of_length_le h]
    simp
theorem allAlike_map {α : Type} (enc : α → D) (h : ∀ a b, alike (enc a) (enc b) = true) (xs : List α) : allAlike (xs.map enc) = true := by
  simp only [allAlike, List.all_eq_true, List.mem_map]
  rintro _ ⟨a, _, rfl⟩ _ ⟨b, _, rfl⟩
  exact h a b
theorem sortOk_map {α : Type} (enc : α → D) (hp : ∀ a, (enc a).plain = true) (h : ∀ a b, alike (enc a) (enc b) = true) (hd : ∀ a, (enc a).depth ≤ 60) (ht : (∀ a, isTup1 (enc a) = true) ∨ ∀ a, notTup (enc a) = true) (xs : List α) : sortOk (xs.map enc) = true := by
  simp only [sortOk, plainAll_map enc hp, allAlike_map enc h, Bool.true_and, Bool.and_eq_true, Bool.or_eq_true, List.all_eq_true, List.mem_map]
  refine ⟨.inl (ht.imp (fun h => ?_) (fun h => ?_)), ?_⟩
  · rintro _ ⟨a, _, rfl⟩; exact h a
  · rintro _ ⟨a, _, rfl⟩; exact h a
  · rintro _ ⟨a, _, rfl⟩; exact decide_eq_true (hd a)
theorem sortOk_strs (xs : List Str) : sortOk (xs.map .str) = true := sortOk_map _ plain_str (fun _ _ => rfl) str_d (.inr fun _ => rfl) xs
theorem pr_alike (p q : Str × Str) : alike (pr p) (pr q) = true := by simp [pr, alike, alikeAll]
theorem sortOk_prs (xs : List (Str × Str)) : sortOk (xs.map pr) = true := sortOk_map _ pr_plain pr_alike pr_d (.inl fun _ => rfl) xs
theorem pSorted_list (xs : List D) (h : sortOk xs = true) : pSorted [.list xs] = some (.list (sortD xs), true) := by simp [pSorted, h]
theorem pSorted_tuple (xs : List D) (h : sortOk xs = true) : pSorted [.tuple xs] = some (.list (sortD xs), true) := by simp [pSorted, h]
theorem pSorted_sL (xs : List Str) : pSorted [.list (xs.map .str)] = some (.list ((sortE .str xs).map .str), true) := by rw [pSorted_list _ (sortOk_strs xs), sortD_map]
theorem pSorted_sT (xs : List Str) : pSorted [.tuple (xs.map .str)] = some (.list ((sortE .str xs).map .str), true) := by rw [pSorted_tuple _ (sortOk_strs xs), sortD_map]
theorem pSorted_pL (xs : List (Str × Str)) : pSorted [.list (xs.map pr)] = some (.list ((sortE pr xs).map pr), true) := by rw [pSorted_list _ (sortOk_prs xs), sortD_map]
theorem pSorted_pT (xs : List (Str × Str)) : pSorted [.tuple (xs.map pr)] = some (.list ((sortE pr xs).map pr), true) := by rw [pSorted_tuple _ (sortOk_prs xs), sortD_map]
/-! the order of names -/
theorem nlt_irrefl (a : Str) : nlt a a = false := dl_irrefl _
theorem nlt_trans {a b c : Str} (h1 : nlt a b = true) (h2 : nlt b c = true) : nlt a c = true := dl_trans h1 h2
theorem nlt_asymm {a b : Str} (h : nlt a b = true) : nlt b a = false := dl_asymm h
theorem nlt_ne {a b : Str} (h : nlt a b = true) : a ≠ b := fun e => by
  subst e
  rw [nlt_irrefl] at h
  cases h
theorem str_tot : Tot PyData.str := by
  intro a b hne
  cases h : dataLt (.str a) (.str b) with
  | true => exact .inl rfl
  | false =>
    cases h2 : dataLt (.str b) (.str a) with
    | true => exact .inr rfl
    | false =>
      exfalso
      have e := PyProof.Rows.lex_total (O := PyProof.Rows.itemOrd) (keyToks (.str a)) (keyToks (.str b)) h h2
      simp only [keyToks, List.cons.injEq, Sum.inr.injEq, and_true] at e
      exact hne (str_of_cps e)
theorem nlt_tot {a b : Str} (h : a ≠ b) : nlt a b = true ∨ nlt b a = true := str_tot a b h
theorem pr_lt (p q : Str × Str) : dataLt (pr p) (pr q) = if p.1 = q.1 then nlt p.2 q.2 else nlt p.1 q.1 := by
  unfold pr
  rw [dataLt_pair rfl rfl, eqv_str, eqv_str]
  by_cases h1 : p.1 = q.1
  · simp only [h1, decide_true, if_true]
    by_cases h2 : p.2 = q.2
    · simp [h2, nlt_irrefl]
    · simp [h2, nlt]
  · simp [h1, nlt]
theorem pr_tot : Tot pr := by
  rintro ⟨a, b⟩ ⟨c, d⟩ hne
  rw [pr_lt, pr_lt]
  by_cases h : a = c
  · subst h
    simp only [if_true]
    exact nlt_tot fun e => hne (by rw [e])
  · simp only [h, if_false, Ne.symm h]
    exact nlt_tot h
end G6

namespace G6
open PySem PySem.W
/-! ### dicts, by encodings of keys and values -/
def kv {α β : Type} (k : α → D) (v : β → D) (p : α × β) : D × D := (k p.1, v p.2)
/-- an encoding that serves for keys -/
structure KeyE {α : Type} [DecidableEq α] (k : α → D) : Prop where
  eqv : ∀ a b, PyData.eqv (k a) (k b) = decide (a = b)
  fit : (∀ a, flatK (k a) = true) ∨ ∀ a, tupK (k a) = true
theorem key_str : KeyE PyData.str := ⟨eqv_str, .inl fun _ => rfl⟩
theorem key_int : KeyE PyData.int := ⟨eqv_int, .inl fun _ => rfl⟩
theorem key_pr : KeyE pr := ⟨eqv_pr, .inr fun _ => rfl⟩
theorem key_sT : KeyE sT := ⟨eqv_sT, .inr fun xs => by simp [tupK, flatK]⟩
section
variable {α β : Type} [DecidableEq α] {k : α → D} {v : β → D}
theorem kFits_map (h : KeyE k) (S : List (α × β)) (a : α) : kFits (S.map (kv k v)) (k a) = true := by
  unfold kFits
  rw [Bool.or_eq_true, Bool.and_eq_true, Bool.and_eq_true]
  rcases h.fit with f | f
  · exact .inl ⟨f a, by simp [kv, f]⟩
  · exact .inr ⟨f a, by simp [kv, f]⟩
def look (S : List (α × β)) (a : α) : Option β := (S.find? fun p => decide (p.1 = a)).map (·.2)
theorem dLook_map (h : KeyE k) (S : List (α × β)) (a : α) : dLook (S.map (kv k v)) (k a) = (look S a).map v := by
  unfold dLook look
  rw [List.find?_map, Option.map_map, Option.map_map]
  have : ((fun p : D × D => PyData.eqv p.1 (k a)) ∘ kv k v) = fun p => decide (p.1 = a) := by
    funext p
    simp [kv, h.eqv]
  rw [this]
  rfl
theorem look_none {S : List (α × β)} {a : α} : look S a = none ↔ a ∉ S.map (·.1) := by
  unfold look
  simp only [Option.map_eq_none_iff, List.find?_eq_none, decide_eq_true_eq, List.mem_map, not_exists, not_and]
theorem look_isSome {S : List (α × β)} {a : α} : (look S a).isSome = decide (a ∈ S.map (·.1)) := by
  rw [Bool.eq_iff_iff]
  cases h : look S a with
  | none => simp only [Option.isSome_none, Bool.false_eq_true, false_iff, decide_eq_true_eq]; exact look_none.mp h
  | some d =>
    simp only [Option.isSome_some, true_iff, decide_eq_true_eq]
    exact Decidable.byContradiction fun q => by rw [look_none.mpr q] at h; cases h
theorem look_mem {S : List (α × β)} {a : α} {d : β} (h : look S a = some d) : (a, d) ∈ S := by
  unfold look at h
  rw [Option.map_eq_some_iff] at h
  obtain ⟨p, h1, rfl⟩ := h
  have := List.find?_some h1
  simp only [decide_eq_true_eq] at this
  rw [← this]
  exact List.mem_of_find?_eq_some h1
theorem look_of_mem {S : List (α × β)} (nd : (S.map (·.1)).Nodup) {a : α} {d : β} (h : (a, d) ∈ S) : look S a = some d := by
  induction S with
  | nil => cases h
  | cons p S ih =>
    simp only [List.map_cons, List.nodup_cons] at nd
    unfold look
    rw [List.find?_cons]
    rcases List.mem_cons.mp h with rfl | h
    · simp
    · have hne : p.1 ≠ a := fun e => nd.1 (e ▸ List.mem_map.mpr ⟨(a, d), h, rfl⟩)
      simp only [hne, decide_false]
      exact ih nd.2 h
theorem dPut_new (h : KeyE k) (S : List (α × β)) (a : α) (d : β) (hn : a ∉ S.map (·.1)) : dPut (S.map (kv k v)) (k a) (v d) = (S ++ [(a, d)]).map (kv k v) := by
  unfold dPut
  have : ((S.map (kv k v)).any fun p => PyData.eqv p.1 (k a)) = false := by
    rw [List.any_map, Bool.eq_false_iff]
    intro q
    rw [List.any_eq_true] at q
    obtain ⟨p, hp, e⟩ := q
    simp only [Function.comp, kv, h.eqv, decide_eq_true_eq] at e
    exact hn (e ▸ List.mem_map.mpr ⟨p, hp, rfl⟩)
  rw [this]
  simp [kv]
def upd (S : List (α × β)) (a : α) (d : β) : List (α × β) := if a ∈ S.map (·.1) then S.map fun p => if p.1 = a then (p.1, d) else p else S ++ [(a, d)]
theorem dPut_map (h : KeyE k) (S : List (α × β)) (a : α) (d : β) : dPut (S.map (kv k v)) (k a) (v d) = (upd S a d).map (kv k v) := by
  by_cases hn : a ∈ S.map (·.1)
  · unfold dPut upd
    rw [if_pos hn, if_pos]
    · rw [List.map_map, List.map_map]
      apply List.map_congr_left
      intro p _
      simp only [Function.comp, kv, h.eqv, decide_eq_true_eq]
      split <;> rfl
    · rw [List.any_map, List.any_eq_true]
      obtain ⟨p, hp, e⟩ := List.mem_map.mp hn
      exact ⟨p, hp, by simp [kv, h.eqv, e]⟩
  · rw [dPut_new h S a d hn]
    unfold upd
    rw [if_neg hn]
theorem upd_keys (S : List (α × β)) (a : α) (d : β) : (upd S a d).map (·.1) = if a ∈ S.map (·.1) then S.map (·.1) else S.map (·.1) ++ [a] := by
  unfold upd
  split
  · rw [List.map_map]
    apply List.map_congr_left
    intro p _
    simp only [Function.comp]
    split <;> rfl
  · simp
theorem look_upd (S : List (α × β)) (a : α) (d : β) (b : α) : look (upd S a d) b = if a = b then some d else look S b := by
  by_cases hn : a ∈ S.map (·.1)
  · unfold upd
    rw [if_pos hn]
    induction S with
    | nil => cases hn
    | cons p S ih =>
      simp only [List.map_cons]
      unfold look
      simp only [List.find?_cons]
      by_cases q : p.1 = a
      · simp only [q, if_true]
        by_cases e : a = b
        · simp [e]
        · simp only [e, decide_false, if_false]
          by_cases hm : a ∈ S.map (·.1)
          · have := ih hm
            unfold look at this
            rw [this, if_neg e]
          · have hid : (S.map fun p => if p.1 = a then (p.1, d) else p) = S := by
              conv => rhs; rw [← List.map_id S]
              apply List.map_congr_left
              intro x hx
              rw [if_neg]
              · rfl
              · intro ex; exact hm (ex ▸ List.mem_map.mpr ⟨x, hx, rfl⟩)
            rw [hid]
      · simp only [q, if_false]
        have hm : a ∈ S.map (·.1) := by
          rcases List.mem_cons.mp hn with e | e
          · exact absurd e.symm q
          · exact e
        by_cases e : p.1 = b
        · have : a ≠ b := fun z => q (e.trans z.symm)
          simp [e, this]
        · simp only [e, decide_false]
          exact ih hm
  · unfold upd
    rw [if_neg hn]
    unfold look
    rw [List.find?_append]
    by_cases e : a = b
    · subst e
      have : (S.find? fun p => decide (p.1 = a)) = none := by
        have := look_none.mpr hn
        unfold look at this
        rwa [Option.map_eq_none_iff] at this
      simp [this]
    · simp [e]
theorem pIn_dict (h : KeyE k) (S : List (α × β)) (a : α) [Decidable (a ∈ S.map (·.1))] : pIn [k a, .dict (S.map (kv k v))] = some (.bool (decide (a ∈ S.map (·.1))), false) := by
  have e : ((look S a).map v).isSome = decide (a ∈ S.map (·.1)) := by
    rw [Option.isSome_map, look_isSome]
    congr
  rw [← e, ← dLook_map h]
  have f : kFits (S.map (kv k v)) (k a) = true := kFits_map h S a
  generalize k a = x at f ⊢
  cases x <;> simp [pIn, f]
theorem pNin_dict (h : KeyE k) (S : List (α × β)) (a : α) [Decidable (a ∈ S.map (·.1))] : pNin [k a, .dict (S.map (kv k v))] = some (.bool (!decide (a ∈ S.map (·.1))), false) := by
  have e : ((look S a).map v).isSome = decide (a ∈ S.map (·.1)) := by
    rw [Option.isSome_map, look_isSome]
    congr
  rw [← e, ← dLook_map h]
  have f : kFits (S.map (kv k v)) (k a) = true := kFits_map h S a
  generalize k a = x at f ⊢
  cases x <;> simp [pNin, f]
theorem pIx_dict (h : KeyE k) (S : List (α × β)) (a : α) (d : β) (hl : look S a = some d) : pIx [.dict (S.map (kv k v)), k a] = some (v d, false) := pIx_d _ _ _ (kFits_map h S a) (by rw [dLook_map h, hl]; rfl)
end
theorem pIn_sd {β : Type} (v : β → D) (S : List (Str × β)) (a : Str) : pIn [.str a, .dict (S.map (kv .str v))] = some (.bool (decide (a ∈ S.map (·.1))), false) := pIn_dict key_str S a
theorem pNin_sd {β : Type} (v : β → D) (S : List (Str × β)) (a : Str) : pNin [.str a, .dict (S.map (kv .str v))] = some (.bool (!decide (a ∈ S.map (·.1))), false) := pNin_dict key_str S a
theorem kPut_sd {β : Type} (v : β → D) (d : β) (i : Nat) (e : En) (a : Str) (S : List (Str × β)) (h : S.length < sizeLine) : kPut3 (v d) i e (some (.str a)) (some (some (true, .dict (S.map (kv .str v))))) = .ok .next (e.set i (some (true, .dict ((upd S a d).map (kv .str v))))) := by
  rw [kPut3_d _ _ _ _ _ (kFits_map key_str S a) (by simpa using h), dPut_map key_str]
end G6

namespace G6
open PySem PySem.W
def nI (n : Nat) : D := .int (n : Int)
theorem nI_eq (n : Nat) : nI n = .int (n : Int) := rfl
/-! ### more primitives -/
theorem for_range {tg : Tg} {b : S} (enc : Nat → D) (m : Nat) (P : Nat → En → Prop) (e : En) (h0 : P 0 e) (ht : ∀ i e, i < m → P i e → ∃ e2, forOne tg b (enc i) e = .ok .next e2 ∧ P (i + 1) e2) :
    ∃ e', forGo tg b ((List.range m).map enc) e = .ok .next e' ∧ P m e' := by
  obtain ⟨e', h1, h2⟩ := for_inv (tg := tg) (b := b) enc (List.range m) (fun ys e => P ys.length e) e h0 fun ys x zs e hx h => by
    have hl : (List.range m).length = ys.length + (zs.length + 1) := by rw [hx]; simp
    rw [List.length_range] at hl
    have hxe : x = ys.length := by
      have q : (List.range m)[ys.length]? = some x := by rw [hx]; simp
      rw [List.getElem?_range (by omega)] at q
      exact (Option.some.inj q).symm
    obtain ⟨e2, h1, h2⟩ := ht ys.length e (by omega) h
    exact ⟨e2, by rw [hxe]; exact h1, by simpa using h2⟩
  rw [List.length_range] at h2
  exact ⟨e', h1, h2⟩
theorem for_invD {tg : Tg} {b : S} (xs : List D) (P : List D → En → Prop) (e : En) (h0 : P [] e) (ht : ∀ (ys : List D) (x : D) (zs : List D) (e : En), xs = ys ++ x :: zs → P ys e → ∃ e2, forOne tg b x e = .ok .next e2 ∧ P (ys ++ [x]) e2) :
    ∃ e', forGo tg b xs e = .ok .next e' ∧ P xs e' := by
  have := for_inv (tg := tg) (b := b) (fun x : D => x) xs P e h0 ht
  rwa [List.map_id'] at this
/-- loops whose turns keep P -/
theorem for_all {α : Type} {tg : Tg} {b : S} (enc : α → D) (xs : List α) (P : En → Prop) (e : En) (h0 : P e) (ht : ∀ x ∈ xs, ∀ e, P e → ∃ e2, forOne tg b (enc x) e = .ok .next e2 ∧ P e2) :
    ∃ e', forGo tg b (xs.map enc) e = .ok .next e' ∧ P e' :=
  for_inv enc xs (fun _ => P) e h0 fun ys x zs e hx h => ht x (by rw [hx]; simp) e h
theorem for_allD {tg : Tg} {b : S} (xs : List D) (P : En → Prop) (e : En) (h0 : P e) (ht : ∀ x ∈ xs, ∀ e, P e → ∃ e2, forOne tg b x e = .ok .next e2 ∧ P e2) :
    ∃ e', forGo tg b xs e = .ok .next e' ∧ P e' :=
  for_invD xs (fun _ => P) e h0 fun ys x zs e hx h => ht x (by rw [hx]; simp) e h
theorem rngD_nat (m : Nat) : rngD 0 (m : Int) = (List.range m).map nI := by
  unfold rngD
  rw [show ((m : Int) - 0).toNat = m by omega]
  apply List.map_congr_left
  intro k _
  simp [nI]
theorem rngD_one (m : Nat) : rngD 1 (m : Int) = (List.range (m - 1)).map fun k => nI (k + 1) := by
  unfold rngD
  rw [show ((m : Int) - 1).toNat = m - 1 by omega]
  apply List.map_congr_left
  intro k _
  simp [nI]
  omega
theorem small62_nat {m : Nat} (h : m ≤ 1000000) : small62 (m : Int) = true := by
  simp [small62]
  omega
theorem pMul_if (x : D) (b : Bool) : pMul [.list [x], .int (if b then 1 else 0)] = some (.list (if b then [x] else []), true) := by
  cases b
  · simp [pMul, small63, sizeLine_eq]
  · simp [pMul, small63, sizeLine_eq]
theorem pMul_0 (x : D) : pMul [.list [x], .int 0] = some (.list [], true) := pMul_if x false
theorem pMul_1 (x : D) : pMul [.list [x], .int 1] = some (.list [x], true) := pMul_if x true
/-- two names in their order -/
def ord2 (x y : Str) : Str × Str := if nlt x y then (x, y) else (y, x)
theorem ord2_lt {x y : Str} (h : x ≠ y) : nlt (ord2 x y).1 (ord2 x y).2 = true := by
  unfold ord2
  cases q : nlt x y with
  | true => simpa using q
  | false => simpa [q] using (nlt_tot h).resolve_left (by simp [q])
theorem ord2_comm (x y : Str) : ord2 x y = ord2 y x := by
  by_cases h : x = y
  · rw [h]
  · unfold ord2
    rcases nlt_tot h with q | q
    · simp [q, nlt_asymm q]
    · simp [q, nlt_asymm q]
theorem ord2_mem {x y : Str} {ns : List Str} (hx : x ∈ ns) (hy : y ∈ ns) : (ord2 x y).1 ∈ ns ∧ (ord2 x y).2 ∈ ns := by
  unfold ord2
  split <;> exact ⟨by assumption, by assumption⟩
theorem pMin2_str (x y : Str) : pMin2 [.str x, .str y] = some (.str (ord2 x y).1, false) := by
  show some (PyData.str (if nlt y x then y else x), false) = _
  congr 3
  unfold ord2
  by_cases h : x = y
  · subst h; simp
  · rcases nlt_tot h with q | q
    · simp [q, nlt_asymm q]
    · simp [q, nlt_asymm q]
theorem pMax2_str (x y : Str) : pMax2 [.str x, .str y] = some (.str (ord2 x y).2, false) := by
  show some (PyData.str (if nlt x y then y else x), false) = _
  congr 3
  unfold ord2
  by_cases h : x = y
  · subst h; simp
  · rcases nlt_tot h with q | q
    · simp [q, nlt_asymm q]
    · simp [q, nlt_asymm q]
theorem enumD_map {α : Type} (enc : α → D) : ∀ (xs : List α) (k : Nat), enumD k (xs.map enc) = (xs.zipIdx k).map fun p => .tuple [nI p.2, enc p.1]
  | [], _ => rfl
  | x :: xs, k => by simp [enumD, enumD_map enc xs (k + 1), nI]
theorem pSorted_two {x y : Str} (h : x ≠ y) : pSorted [.list [.str x, .str y]] = some (.list [.str (ord2 x y).1, .str (ord2 x y).2], true) := by
  have e := pSorted_sL [x, y]
  simp only [List.map_cons, List.map_nil] at e
  rw [e, sortE_eq (ys := [(ord2 x y).1, (ord2 x y).2])]
  · rfl
  · unfold ord2
    split
    · exact .refl _
    · exact .swap _ _ _
  · simp only [Asc, List.pairwise_cons, List.mem_singleton, forall_eq, List.not_mem_nil, false_implies, implies_true, List.Pairwise.nil, and_true]
    exact ord2_lt h
theorem pSorted_one (x : Str) : pSorted [.list [.str x]] = some (.list [.str x], true) := by
  have e := pSorted_sL [x]
  simp only [List.map_cons, List.map_nil] at e
  rw [e, sortE_self (by simp [Asc])]
  rfl
theorem cut_2 {α : Type} (xs : List α) : cutL xs none (some 2) = xs.take 2 := cutL_to xs 2
theorem cut_1 {α : Type} (xs : List α) : cutL xs none (some 1) = xs.take 1 := cutL_to xs 1
theorem cut1_ {α : Type} (xs : List α) : cutL xs (some 1) none = xs.drop 1 := cutL_from xs 1
/-! ### what a set keeps -/
def ddp {α : Type} [DecidableEq α] : List α → List α
  | [] => []
  | x :: xs => x :: (ddp xs).filter fun y => !decide (y = x)
section
variable {α : Type} [DecidableEq α] {enc : α → D}
theorem dedup_map (h : ∀ a b, PyData.eqv (enc a) (enc b) = decide (a = b)) : ∀ xs : List α, dedup (xs.map enc) = (ddp xs).map enc
  | [] => rfl
  | x :: xs => by
    simp only [List.map_cons, dedup, ddp, dedup_map h xs]
    rw [List.filter_map]
    congr 2
    apply List.filter_congr
    intro y _
    simp [h]
theorem ddp_mem {x : α} : ∀ {xs : List α}, x ∈ ddp xs ↔ x ∈ xs
  | [] => by simp [ddp]
  | y :: ys => by
    simp only [ddp, List.mem_cons, List.mem_filter, ddp_mem (xs := ys), Bool.not_eq_true', decide_eq_false_iff_not]
    by_cases h : x = y <;> simp [h]
theorem ddp_nodup : ∀ xs : List α, (ddp xs).Nodup
  | [] => .nil
  | x :: xs => by
    simp only [ddp]
    exact List.nodup_cons.mpr ⟨by simp, (ddp_nodup xs).filter _⟩
theorem ddp_self : ∀ {xs : List α}, xs.Nodup → ddp xs = xs
  | [], _ => rfl
  | x :: xs, h => by
    rw [List.nodup_cons] at h
    rw [ddp, ddp_self h.2]
    congr 1
    rw [List.filter_eq_self]
    intro y hy
    simp only [Bool.not_eq_true', decide_eq_false_iff_not]
    rintro rfl
    exact h.1 hy
theorem ddp_len (xs : List α) : (ddp xs).length ≤ xs.length := by
  induction xs with
  | nil => simp [ddp]
  | cons x xs ih =>
    simp only [ddp, List.length_cons]
    have := List.length_filter_le (fun y => !decide (y = x)) (ddp xs)
    omega
end
theorem pSortedSet_pL (xs : List (Str × Str)) (h : xs.length < 64) : pSortedSet [.list (xs.map pr)] = some (.list ((sortE pr (ddp xs)).map pr), true) := by
  have s : setOk (xs.map pr) = true := by
    simp only [setOk, Bool.and_eq_true, List.all_eq_true, decide_eq_true_eq, List.length_map]
    refine ⟨fun d hd => ?_, h⟩
    obtain ⟨p, _, rfl⟩ := List.mem_map.mp hd
    rfl
  simp only [pSortedSet, s, dedup_map eqv_pr, sortOk_prs, Bool.and_self, if_true, sortD_map]
theorem pSortedSet_sTL (xs : List (List Str)) (h : xs.length < 64) (hne : ∀ x ∈ xs, x ≠ []) (hs : sortOk ((ddp xs).map sT) = true) : pSortedSet [.list (xs.map sT)] = some (.list ((sortE sT (ddp xs)).map sT), true) := by
  have s : setOk (xs.map sT) = true := by
    simp only [setOk, Bool.and_eq_true, List.all_eq_true, decide_eq_true_eq, List.length_map]
    refine ⟨fun d hd => ?_, h⟩
    obtain ⟨p, hp, rfl⟩ := List.mem_map.mp hd
    cases p with
    | nil => exact absurd rfl (hne _ hp)
    | cons a p =>
      show (true && (p.map PyData.str).all isStrD) = true
      simp [isStrD]
  simp only [pSortedSet, s, dedup_map eqv_sT, hs, Bool.and_self, if_true, sortD_map]
theorem sT_alike (xs ys : List Str) : alike (sT xs) (sT ys) = true := by
  have go : ∀ xs ys : List Str, alikeAll (xs.map .str) (ys.map .str) = true := by
    intro xs
    induction xs with
    | nil => intro ys; simp [alikeAll]
    | cons x xs ih =>
      intro ys
      cases ys with
      | nil => simp [alikeAll]
      | cons y ys => simp [alikeAll, alike, ih ys]
  simp [alike, go]
theorem sortOk_sTs {xs : List (List Str)} (h : ∀ x ∈ xs, x ≠ []) : sortOk (xs.map sT) = true := by
  simp only [sortOk, plainAll_map sT sT_plain, allAlike_map sT sT_alike, Bool.true_and, Bool.and_eq_true, Bool.or_eq_true, List.all_eq_true, List.mem_map]
  refine ⟨.inl (.inl ?_), ?_⟩
  · rintro _ ⟨a, ha, rfl⟩
    cases a with
    | nil => exact absurd rfl (h _ ha)
    | cons b a => rfl
  · rintro _ ⟨a, _, rfl⟩; exact decide_eq_true (sT_d a)
theorem pSorted_sTL {xs : List (List Str)} (h : ∀ x ∈ xs, x ≠ []) : pSorted [.list (xs.map sT)] = some (.list ((sortE sT xs).map sT), true) := by rw [pSorted_list _ (sortOk_sTs h), sortD_map]
theorem sT_tot : Tot sT := by
  intro xs ys hne
  cases h : dataLt (sT xs) (sT ys) with
  | true => exact .inl rfl
  | false =>
    cases h2 : dataLt (sT ys) (sT xs) with
    | true => exact .inr rfl
    | false =>
      exfalso
      have e := PyProof.Rows.lex_total (O := PyProof.Rows.itemOrd) (keyToks (sT xs)) (keyToks (sT ys)) h h2
      have := toks_eqv (sT xs) (sT ys) (sT_alike xs ys)
      cases q : PyData.eqv (sT xs) (sT ys) with
      | true => rw [eqv_sT, decide_eq_true_eq] at q; exact hne q
      | false =>
        have e2 := this.2 q [] [Sum.inl 0]
        rw [e, lex_pre, PyProof.Rows.lex_irrefl] at e2
        cases e2
end G6

namespace G6
open PySem PySem.W
def b_is_integer (F : Str → Fn) : S :=
  sRet (xAnd (xPrim (pIsi .int) [.nm 0]) (xAnd (xNot (.ex (xPrim (pIsi .bool) [.nm 0]))) (xCmp2 pLe pLe (.nm 1) (.nm 0) (.nm 2))))
class H_is_integer (T : Nat → Str → Fn) : Prop where
  own_is_integer : Has T "is_integer" 3 [false, false, false] b_is_integer
def b_is_ascending (F : Str → Fn) : S :=
  sRet (xPrim pAll [.ex (xLc [1, 2] (.zip (xVar 0) (xCut (.nm 0) (some (.ex (xLit (.int 1)))) none)) (.tup [.nm 1, .nm 2]) [] (xPrim pLt [.nm 1, .nm 2]))])
class H_is_ascending (T : Nat → Str → Fn) : Prop where
  own_is_ascending : Has T "is_ascending" 3 [false] b_is_ascending
def b_is_name (F : Str → Fn) : S :=
  sSeq (sIf (tOr (tNot (tVal (.ex (xPrim (pIsi .str) [.nm 0])))) (tNot (tCmp (xCmp2 pLe pLe (.ex (xLit (.int 1))) (.ex (xPrim pLen [.nm 0])) (.ex (xLit (.int 3))))))) (sRet (xLit (.bool false))) (sNil)) <|
  sRet (xPrim pAll [.ex (xLc [1] (.val (xVar 0)) (.nm 1) [] (xCmp2 pLe pLe (.ex (xLit (.str "a"))) (.nm 1) (.ex (xLit (.str "z")))))])
class H_is_name (T : Nat → Str → Fn) : Prop where
  own_is_name : Has T "is_name" 2 [false] b_is_name
def b_are_names (F : Str → Fn) : S :=
  sSeq (sIf (tOr (tNot (tVal (.ex (xPrim (pIsi .tuple) [.nm 0])))) (tNot (tCmp (xCmp2 pLe pLe (.ex (xLit (.int 1))) (.ex (xPrim pLen [.nm 0])) (.ex (xLit (.int 8))))))) (sRet (xLit (.bool false))) (sNil)) <|
  sRet (xAnd (xPrim pAll [.ex (xLc [1] (.val (xVar 0)) (.nm 1) [] (xCall (F "is_name") [.v (xVar 1)]))]) (xCall (F "is_ascending") [.v (xVar 0)]))
class H_are_names (T : Nat → Str → Fn) : Prop extends H_is_ascending T, H_is_name T where
  own_are_names : Has T "are_names" 2 [false] b_are_names
def b_is_pair (F : Str → Fn) : S :=
  sSeq (sIf (tOr (tNot (tVal (.ex (xPrim (pIsi .tuple) [.nm 1])))) (tCmp (xPrim pNe [.ex (xPrim pLen [.nm 1]), .ex (xLit (.int 2))]))) (sRet (xLit (.bool false))) (sNil)) <|
  sRet (xAnd (xPrim pAll [.ex (xLc [2] (.val (xVar 1)) (.nm 2) [] (xAnd (xPrim (pIsi .str) [.nm 2]) (xPrim pIn [.nm 2, .nm 0])))]) (xPrim pLt [.ex (xPrim pIx [.nm 1, .ex (xLit (.int 0))]), .ex (xPrim pIx [.nm 1, .ex (xLit (.int 1))])]))
class H_is_pair (T : Nat → Str → Fn) : Prop where
  own_is_pair : Has T "is_pair" 3 [false, false] b_is_pair
def b_beside (F : Str → Fn) : S :=
  sRet (xPrim pSorted [.ex (xPrim pAdd [.ex (xLc [2, 3] (.val (xVar 0)) (.tup [.nm 2, .nm 3]) [tCmp (xPrim pEq [.nm 3, .nm 1])] (xVar 2)), .ex (xLc [2, 3] (.val (xVar 0)) (.tup [.nm 2, .nm 3]) [tCmp (xPrim pEq [.nm 2, .nm 1])] (xVar 3))])])
class H_beside (T : Nat → Str → Fn) : Prop where
  own_beside : Has T "beside" 4 [false, false] b_beside
def b_steps_from (F : Str → Fn) : S :=
  sSeq (sPar [2, 3, 4] [(xDict [(xVar 1, xLit (.int 0))]), (xLst [(xVar 1)]), (xLit (.int 0))]) <|
  sSeq (sWhile (tVal (.nm 3)) (
      sSeq (sAug 4 (xLit (.int 1))) <|
      sSeq (sAsg 5 (xLst [])) <|
      sSeq (sFor (.val (xVar 3)) (.nm 6) (sFor (.val (xCall (F "beside") [.v (xPrim pIx [.nm 0, .ex (xLit (.int 1))]), .v (xVar 6)])) (.nm 7) (sIf (tCmp (xPrim pNin [.nm 7, .nm 2])) (
              sSeq (sPutI 2 (.nm 7) (xVar 4)) <|
              sExpr (xAppend 5 (xVar 7))) (sNil)))) <|
      sAsg 3 (xVar 5))) <|
  sRet (xVar 2)
class H_steps_from (T : Nat → Str → Fn) : Prop extends H_beside T where
  own_steps_from : Has T "steps_from" 8 [false, false] b_steps_from
def b_is_connected (F : Str → Fn) : S :=
  sRet (xPrim pEq [.ex (xPrim pLen [.ex (xCall (F "steps_from") [.v (xVar 0), .v (xPrim pIx [.ex (xPrim pIx [.nm 0, .ex (xLit (.int 0))]), .ex (xLit (.int 0))])])]), .ex (xPrim pLen [.ex (xPrim pIx [.nm 0, .ex (xLit (.int 0))])])])
class H_is_connected (T : Nat → Str → Fn) : Prop extends H_steps_from T where
  own_is_connected : Has T "is_connected" 1 [false] b_is_connected
def b_is_network (F : Str → Fn) : S :=
  sSeq (sIf (tOr (tNot (tVal (.ex (xPrim (pIsi .tuple) [.nm 0])))) (tOr (tCmp (xPrim pNe [.ex (xPrim pLen [.nm 0]), .ex (xLit (.int 2))])) (tNot (tVal (.ex (xCall (F "are_names") [.v (xPrim pIx [.nm 0, .ex (xLit (.int 0))])])))))) (sRet (xLit (.bool false))) (sNil)) <|
  sSeq (sUnp (.tup [.nm 1, .nm 2]) (xVar 0)) <|
  sSeq (sIf (tOr (tNot (tVal (.ex (xPrim (pIsi .tuple) [.nm 2])))) (tOr (tNot (tVal (.ex (xPrim pAll [.ex (xLc [3] (.val (xVar 2)) (.nm 3) [] (xCall (F "is_pair") [.v (xVar 1), .v (xVar 3)]))])))) (tNot (tVal (.ex (xCall (F "is_ascending") [.v (xVar 2)])))))) (sRet (xLit (.bool false))) (sNil)) <|
  sRet (xCall (F "is_connected") [.v (xVar 0)])
class H_is_network (T : Nat → Str → Fn) : Prop extends H_is_connected T, H_are_names T, H_is_ascending T, H_is_pair T where
  own_is_network : Has T "is_network" 4 [false] b_is_network
def b_require_network (F : Str → Fn) : S :=
  sIf (tNot (tVal (.ex (xCall (F "is_network") [.v (xVar 0)])))) (sRaise "InvalidNetwork") (sNil)
class H_require_network (T : Nat → Str → Fn) : Prop extends H_is_network T where
  own_require_network : Has T "require_network" 1 [false] b_require_network
def b_are_nodes (F : Str → Fn) : S :=
  sSeq (sIf (tOr (tNot (tVal (.ex (xPrim (pIsi .tuple) [.nm 1])))) (tNot (tVal (.ex (xPrim pAll [.ex (xLc [2] (.val (xVar 1)) (.nm 2) [] (xAnd (xPrim (pIsi .str) [.nm 2]) (xPrim pIn [.nm 2, .ex (xPrim pIx [.nm 0, .ex (xLit (.int 0))])])))]))))) (sRet (xLit (.bool false))) (sNil)) <|
  sRet (xCall (F "is_ascending") [.v (xVar 1)])
class H_are_nodes (T : Nat → Str → Fn) : Prop extends H_is_ascending T where
  own_are_nodes : Has T "are_nodes" 3 [false, false] b_are_nodes
def b_require_landmarks (F : Str → Fn) : S :=
  sSeq (sExpr (xCall (F "require_network") [.v (xVar 0)])) <|
  sIf (tNot (tVal (.ex (xCall (F "are_nodes") [.v (xVar 0), .v (xVar 1)])))) (sRaise "InvalidLandmarks") (sNil)
class H_require_landmarks (T : Nat → Str → Fn) : Prop extends H_require_network T, H_are_nodes T where
  own_require_landmarks : Has T "require_landmarks" 2 [false, false] b_require_landmarks
def b_reading_of (F : Str → Fn) : S :=
  sSeq (sAsg 3 (xCall (F "steps_from") [.v (xVar 0), .v (xVar 2)])) <|
  sRet (xPrim pTuple [.ex (xLc [4] (.val (xVar 1)) (.nm 4) [] (xPrim pIx [.nm 3, .nm 4]))])
class H_reading_of (T : Nat → Str → Fn) : Prop extends H_steps_from T where
  own_reading_of : Has T "reading_of" 5 [false, false, false] b_reading_of
def b_are_observed (F : Str → Fn) : S :=
  sSeq (sIf (tOr (tNot (tVal (.ex (xPrim (pIsi .tuple) [.nm 1])))) (tCmp (xPrim pNe [.ex (xPrim pLen [.nm 1]), .ex (xPrim pLen [.nm 0])]))) (sRet (xLit (.bool false))) (sNil)) <|
  sRet (xPrim pAll [.ex (xLc [2] (.val (xVar 1)) (.nm 2) [] (xOr (xPrim pIs [.nm 2, .ex (xLit .none)]) (xCall (F "is_integer") [.v (xVar 2), .v (xLit (.int 0)), .v (xLit (.int 9))])))])
class H_are_observed (T : Nat → Str → Fn) : Prop extends H_is_integer T where
  own_are_observed : Has T "are_observed" 3 [false, false] b_are_observed
def b_errors_in (F : Str → Fn) : S :=
  sRet (xPrim pLen [.ex (xLc [2, 3] (.zip (xVar 0) (xVar 1)) (.tup [.nm 2, .nm 3]) [tAnd (tCmp (xPrim pIsn [.nm 3, .ex (xLit .none)])) (tCmp (xPrim pNe [.nm 3, .nm 2]))] (xLit (.int 1)))])
class H_errors_in (T : Nat → Str → Fn) : Prop where
  own_errors_in : Has T "errors_in" 4 [false, false] b_errors_in
def b_fitting_nodes (F : Str → Fn) : S :=
  sSeq (sAsg 4 (xLst [])) <|
  sSeq (sFor (.val (xPrim pIx [.nm 0, .ex (xLit (.int 0))])) (.nm 5) (sIf (tCmp (xPrim pLe [.ex (xCall (F "errors_in") [.v (xCall (F "reading_of") [.v (xVar 0), .v (xVar 1), .v (xVar 5)]), .v (xVar 2)]), .nm 3])) (sExpr (xAppend 4 (xVar 5))) (sNil))) <|
  sRet (xVar 4)
class H_fitting_nodes (T : Nat → Str → Fn) : Prop extends H_errors_in T, H_reading_of T where
  own_fitting_nodes : Has T "fitting_nodes" 6 [false, false, false, false] b_fitting_nodes
def b_require_number (F : Str → Fn) : S :=
  sIf (tNot (tVal (.ex (xCall (F "is_integer") [.v (xVar 0), .v (xLit (.int 0)), .v (xLit (.int 8))])))) (sRaise "InvalidNumber") (sNil)
class H_require_number (T : Nat → Str → Fn) : Prop extends H_is_integer T where
  own_require_number : Has T "require_number" 1 [false] b_require_number
def b_fitting (F : Str → Fn) : S :=
  sSeq (sExpr (xCall (F "require_landmarks") [.v (xVar 0), .v (xVar 1)])) <|
  sSeq (sIf (tNot (tVal (.ex (xCall (F "are_observed") [.v (xVar 1), .v (xVar 2)])))) (sRaise "InvalidObserved") (sNil)) <|
  sSeq (sExpr (xCall (F "require_number") [.v (xVar 3)])) <|
  sRet (xCall (F "fitting_nodes") [.v (xVar 0), .v (xVar 1), .v (xVar 2), .v (xVar 3)])
class H_fitting (T : Nat → Str → Fn) : Prop extends H_require_landmarks T, H_require_number T, H_fitting_nodes T, H_are_observed T where
  own_fitting : Has T "fitting" 4 [false, false, false, false] b_fitting
def b__law_draw (F : Str → Fn) : S :=
  sSeq (sIf (tNot (tVal (.nm 1))) (sExpr (xAppend 1 (xPrim pMax1 [.ex (xPrim pAdd [.ex (xLc [4] (.val (xVar 0)) (.nm 4) [] (xPrim pAbs [.nm 4])), .ex (xLst [(xLit (.int 0))])])]))) (sNil)) <|
  sSeq (sExpr (xAppend 1 (xLit (.int 0)))) <|
  sSeq (sAsg 3 (xPrim pLen [.nm 1])) <|
  sSeq (sAsg 4 (xIf (tVal (.nm 0)) (xPrim pIx [.nm 0, .ex (xPrim pMod [.nm 3, .ex (xPrim pLen [.nm 0])])]) (xLit (.int 0)))) <|
  sSeq (sAsg 5 (xPrim pMod [.ex (xPrim pIx [.nm 1, .ex (xLit (.int 0))]), .ex (xLit (.int 65536))])) <|
  sSeq (sPutI 1 (.ex (xLit (.int 0))) (xPrim pDiv [.ex (xPrim pIx [.nm 1, .ex (xLit (.int 0))]), .ex (xLit (.int 65536))])) <|
  sSeq (sAsg 6 (xPrim pMod [.ex (xPrim pAdd [.ex (xPrim pAdd [.nm 4, .ex (xPrim pMul [.ex (xLit (.int 40503)), .nm 5])]), .ex (xPrim pMul [.ex (xLit (.int 104729)), .nm 3])]), .ex (xLit (.int 4294967291))])) <|
  sSeq (sAsg 6 (xPrim pMod [.ex (xPrim pMul [.ex (xPrim pMod [.ex (xPrim pMul [.nm 6, .nm 6]), .ex (xLit (.int 4294967279))]), .ex (xLit (.int 48271))]), .ex (xLit (.int 4294967291))])) <|
  sSeq (sAsg 7 (xPrim pMod [.ex (xPrim pMul [.ex (xPrim pMod [.ex (xPrim pMul [.nm 6, .nm 6]), .ex (xLit (.int 4294967279))]), .ex (xLit (.int 69621))]), .ex (xLit (.int 4294967291))])) <|
  sRet (xPrim pMod [.ex (xPrim pAdd [.ex (xPrim pMul [.ex (xPrim pDiv [.nm 6, .ex (xLit (.int 64))]), .ex (xLit (.int 67108864))]), .ex (xPrim pDiv [.nm 7, .ex (xLit (.int 64))])]), .nm 2])
class H__law_draw (T : Nat → Str → Fn) : Prop where
  own__law_draw : Has T "_law_draw" 8 [false, true, false] b__law_draw
def b__law_pick (F : Str → Fn) : S :=
  sRet (xPrim pIx [.nm 2, .ex (xCall (F "_law_draw") [.v (xVar 0), .io 1, .v (xPrim pLen [.nm 2])])])
class H__law_pick (T : Nat → Str → Fn) : Prop extends H__law_draw T where
  own__law_pick : Has T "_law_pick" 3 [false, true, false] b__law_pick
def b__law_shuffled (F : Str → Fn) : S :=
  sSeq (sPar [3, 4] [(xPrim pList [.nm 2]), (xLst [])]) <|
  sSeq (sWhile (tVal (.nm 3)) (sExpr (xAppend 4 (xPop 3 (.ex (xCall (F "_law_draw") [.v (xVar 0), .io 1, .v (xPrim pLen [.nm 3])])))))) <|
  sRet (xVar 4)
class H__law_shuffled (T : Nat → Str → Fn) : Prop extends H__law_draw T where
  own__law_shuffled : Has T "_law_shuffled" 5 [false, true, false] b__law_shuffled
def b__law_bent (F : Str → Fn) : S :=
  sSeq (sIf (tOr (tNot (tVal (.ex (xPrim (pIsi .tuple) [.nm 2])))) (tOr (tNot (tVal (.nm 2))) (tCmp (xPrim pEq [.ex (xCall (F "_law_draw") [.v (xVar 0), .io 1, .v (xLit (.int 4))]), .ex (xLit (.int 0))])))) (
      sSeq (sAsg 4 (xLst [(xLit .none), (xLit (.bool true)), (xLit (.bool false)), (xLit (.int 0)), (xLit (.int 1)), (xPrim pNeg [.ex (xLit (.int 1))]), (xLit (.int 3)), (xLit (.int 10)), (xLit (.str "a")), (xLit (.str "b")), (xLit (.str "")), (xLit (.str "A")), (xLit (.str "abcd")), (xTup []), (xLst [])])) <|
      sSeq (sAsg 4 (xPrim pAdd [.nm 4, .ex (xLst [(xTup [(xLit (.str "a"))]), (xTup [(xLit (.str "a")), (xLit (.str "b"))]), (xTup [(xLit (.str "b")), (xLit (.str "a"))]), (xTup [(xLit (.str "a")), (xLit (.int 2))]), (xTup [(xLit (.str "a")), (xLit (.str "b")), (xLit (.str "c"))])])])) <|
      sSeq (sIf (tVal (.ex (xPrim (pIsi .tuple) [.nm 2]))) (sAsg 4 (xPrim pAdd [.nm 4, .ex (xLst [(xPrim pList [.nm 2]), (xCut (.nm 2) none (some (.ex (xPrim pNeg [.ex (xLit (.int 1))])))), (xPrim pAdd [.nm 2, .ex (xCut (.nm 2) (some (.ex (xPrim pNeg [.ex (xLit (.int 1))]))) none)]), (xCut (.nm 2) (some (.ex (xLit (.int 1)))) none), (xPrim pRev [.nm 2]), (xPrim pAdd [.nm 2, .ex (xTup [(xLit .none)])])])])) (sNil)) <|
      sSeq (sIf (tVal (.ex (xPrim (pIsi .int) [.nm 2]))) (sAsg 4 (xPrim pAdd [.nm 4, .ex (xPrim pMul [.ex (xLst [(xPrim pAdd [.nm 2, .ex (xLit (.int 1))]), (xPrim pSub [.nm 2, .ex (xLit (.int 1))]), (xNot (.nm 2)), (xTup [(xVar 2)]), (xPrim pStr [.nm 2])]), .ex (xLit (.int 2))])])) (sNil)) <|
      sRet (xCall (F "_law_pick") [.v (xVar 0), .io 1, .v (xVar 4)])) (sNil)) <|
  sSeq (sAsg 3 (xCall (F "_law_draw") [.v (xVar 0), .io 1, .v (xPrim pLen [.nm 2])])) <|
  sRet (xPrim pAdd [.ex (xPrim pAdd [.ex (xCut (.nm 2) none (some (.nm 3))), .ex (xTup [(xCall (F "_law_bent") [.v (xVar 0), .io 1, .v (xPrim pIx [.nm 2, .nm 3])])])]), .ex (xCut (.nm 2) (some (.ex (xPrim pAdd [.nm 3, .ex (xLit (.int 1))]))) none)])
class H__law_bent (T : Nat → Str → Fn) : Prop extends H__law_draw T, H__law_pick T where
  own__law_bent : Has T "_law_bent" 5 [false, true, false] b__law_bent
def b__law_network (F : Str → Fn) : S :=
  sSeq (sAsg 3 (xCall (F "_law_shuffled") [.v (xVar 0), .io 1, .v (xLst [(xLit (.str "a")), (xLit (.str "b")), (xLit (.str "c")), (xLit (.str "d")), (xLit (.str "x")), (xLit (.str "y")), (xLit (.str "ab")), (xLit (.str "z"))])])) <|
  sSeq (sPar [7, 8] [(xPrim pSorted [.ex (xCut (.nm 3) none (some (.ex (xPrim pAdd [.ex (xLit (.int 1)), .ex (xCall (F "_law_draw") [.v (xVar 0), .io 1, .v (xVar 2)])]))))]), (xLst [])]) <|
  sSeq (sAsg 4 (xCall (F "_law_shuffled") [.v (xVar 0), .io 1, .v (xVar 7)])) <|
  sSeq (sFor (.rng2 (.ex (xLit (.int 1))) (.ex (xPrim pLen [.nm 4]))) (.nm 5) (sExpr (xAppend 8 (xPrim pTuple [.ex (xPrim pSorted [.ex (xLst [(xPrim pIx [.nm 4, .nm 5]), (xPrim pIx [.nm 4, .ex (xCall (F "_law_draw") [.v (xVar 0), .io 1, .v (xVar 5)])])])])])))) <|
  sSeq (sFor (.rng1 (.ex (xCall (F "_law_pick") [.v (xVar 0), .io 1, .v (xLst [(xLit (.int 0)), (xLit (.int 0)), (xLit (.int 1)), (xLit (.int 2)), (xLit (.int 4)), (xLit (.int 8))])]))) (.nm 6) (
      sSeq (sAsg 9 (xCut (.ex (xCall (F "_law_shuffled") [.v (xVar 0), .io 1, .v (xVar 7)])) none (some (.ex (xLit (.int 2)))))) <|
      sAsg 8 (xPrim pAdd [.nm 8, .ex (xPrim pMul [.ex (xLst [(xPrim pTuple [.ex (xPrim pSorted [.nm 9])])]), .ex (xPrim pInt [.ex (xPrim pEq [.ex (xPrim pLen [.nm 9]), .ex (xLit (.int 2))])])])]))) <|
  sRet (xTup [(xPrim pTuple [.nm 7]), (xPrim pTuple [.ex (xPrim pSortedSet [.nm 8])])])
class H__law_network (T : Nat → Str → Fn) : Prop extends H__law_shuffled T, H__law_pick T, H__law_draw T where
  own__law_network : Has T "_law_network" 10 [false, true, false] b__law_network
def b__law_table (F : Str → Fn) : S :=
  sSeq (sAsg 1 (xDict [])) <|
  sSeq (sFor (.val (xPrim pIx [.nm 0, .ex (xLit (.int 0))])) (.nm 2) (sFor (.val (xPrim pIx [.nm 0, .ex (xLit (.int 0))])) (.nm 4) (
        sSeq (sAsg 5 (xOr (xPrim pIn [.ex (xTup [(xVar 2), (xVar 4)]), .ex (xPrim pIx [.nm 0, .ex (xLit (.int 1))])]) (xPrim pIn [.ex (xTup [(xVar 4), (xVar 2)]), .ex (xPrim pIx [.nm 0, .ex (xLit (.int 1))])]))) <|
        sPutI 1 (.ex (xTup [(xVar 2), (xVar 4)])) (xIf (tCmp (xPrim pEq [.nm 2, .nm 4])) (xLit (.int 0)) (xIf (tVal (.nm 5)) (xLit (.int 1)) (xLit (.int 99))))))) <|
  sSeq (sFor (.val (xPrim pIx [.nm 0, .ex (xLit (.int 0))])) (.nm 3) (sFor (.val (xPrim pIx [.nm 0, .ex (xLit (.int 0))])) (.nm 2) (sFor (.val (xPrim pIx [.nm 0, .ex (xLit (.int 0))])) (.nm 4) (
          sSeq (sAsg 6 (xPrim pAdd [.ex (xPrim pIx [.nm 1, .ex (xTup [(xVar 2), (xVar 3)])]), .ex (xPrim pIx [.nm 1, .ex (xTup [(xVar 3), (xVar 4)])])])) <|
          sPutI 1 (.ex (xTup [(xVar 2), (xVar 4)])) (xPrim pMin2 [.ex (xPrim pIx [.nm 1, .ex (xTup [(xVar 2), (xVar 4)])]), .nm 6]))))) <|
  sRet (xVar 1)
class H__law_table (T : Nat → Str → Fn) : Prop where
  own__law_table : Has T "_law_table" 7 [false] b__law_table
def b__law_subset (F : Str → Fn) : S :=
  sRet (xPrim pTuple [.ex (xLc [3] (.val (xVar 2)) (.nm 3) [tCmp (xPrim pEq [.ex (xCall (F "_law_draw") [.v (xVar 0), .io 1, .v (xLit (.int 2))]), .ex (xLit (.int 0))])] (xVar 3))])
class H__law_subset (T : Nat → Str → Fn) : Prop extends H__law_draw T where
  own__law_subset : Has T "_law_subset" 4 [false, true, false] b__law_subset
def b__law_are_observed (F : Str → Fn) : S :=
  sSeq (sIf (tOr (tNot (tVal (.ex (xPrim (pIsi .tuple) [.nm 1])))) (tCmp (xPrim pNe [.ex (xPrim pLen [.nm 1]), .ex (xPrim pLen [.nm 0])]))) (sRet (xLit (.bool false))) (sNil)) <|
  sSeq (sAsg 2 (xLc [3] (.val (xVar 1)) (.nm 3) [tCmp (xPrim pIsn [.nm 3, .ex (xLit .none)])] (xVar 3))) <|
  sRet (xPrim pEq [.ex (xLc [3] (.val (xVar 2)) (.nm 3) [tOr (tNot (tVal (.ex (xPrim (pIsi .int) [.nm 3])))) (tOr (tVal (.ex (xPrim (pIsi .bool) [.nm 3]))) (tNot (tCmp (xCmp2 pLe pLe (.ex (xLit (.int 0))) (.nm 3) (.ex (xLit (.int 9)))))))] (xVar 3)), .ex (xLst [])])
class H__law_are_observed (T : Nat → Str → Fn) : Prop where
  own__law_are_observed : Has T "_law_are_observed" 4 [false, false] b__law_are_observed
def b__law_fitting_or (F : Str → Fn) : S :=
  sTry (sRet (xCall (F "fitting") [.v (xVar 0), .v (xVar 1), .v (xVar 2), .v (xVar 3)])) [(["InvalidNetwork"], (.str "InvalidNetwork")), (["InvalidLandmarks"], (.str "InvalidLandmarks")), (["InvalidObserved"], (.str "InvalidObserved")), (["InvalidNumber"], (.str "InvalidNumber"))]
class H__law_fitting_or (T : Nat → Str → Fn) : Prop extends H_fitting T where
  own__law_fitting_or : Has T "_law_fitting_or" 4 [false, false, false, false] b__law_fitting_or
def b_law_k21 (F : Str → Fn) : S :=
  sSeq (sAsg 1 (xLst [])) <|
  sSeq (sFor (.rng1 (.ex (xLit (.int 7)))) (.nm 2) (
      sSeq (sAsg 3 (xCall (F "_law_network") [.v (xVar 0), .io 1, .v (xLit (.int 8))])) <|
      sSeq (sPar [8, 9] [(xCall (F "_law_table") [.v (xVar 3)]), (xPrim pIx [.nm 3, .ex (xLit (.int 0))])]) <|
      sSeq (sPar [10, 11] [(xCall (F "_law_subset") [.v (xVar 0), .io 1, .v (xVar 9)]), (xCall (F "_law_pick") [.v (xVar 0), .io 1, .v (xVar 9)])]) <|
      sSeq (sAsg 4 (xLst [])) <|
      sSeq (sFor (.val (xVar 10)) (.nm 5) (sExpr (xAppend 4 (xCall (F "_law_pick") [.v (xVar 0), .io 1, .v (xPrim pAdd [.ex (xPrim pMul [.ex (xLst [(xPrim pIx [.nm 8, .ex (xTup [(xVar 5), (xVar 11)])])]), .ex (xLit (.int 4))]), .ex (xLst [(xLit .none), (xCall (F "_law_draw") [.v (xVar 0), .io 1, .v (xLit (.int 10))])])])])))) <|
      sSeq (sPar [12, 13] [(xCall (F "_law_draw") [.v (xVar 0), .io 1, .v (xLit (.int 4))]), (xLst [])]) <|
      sSeq (sFor (.val (xVar 9)) (.nm 5) (
          sSeq (sAsg 14 (xLc [16, 17] (.zip (xVar 10) (xVar 4)) (.tup [.nm 16, .nm 17]) [tAnd (tCmp (xPrim pIsn [.nm 17, .ex (xLit .none)])) (tCmp (xPrim pNe [.nm 17, .ex (xPrim pIx [.nm 8, .ex (xTup [(xVar 5), (xVar 16)])])]))] (xLit (.int 1)))) <|
          sAsg 13 (xPrim pAdd [.nm 13, .ex (xPrim pMul [.ex (xLst [(xVar 5)]), .ex (xPrim pInt [.ex (xPrim pLe [.ex (xPrim pLen [.nm 14]), .nm 12])])])]))) <|
      sSeq (sIf (tCmp (xPrim pNe [.ex (xCall (F "fitting") [.v (xVar 3), .v (xVar 10), .v (xPrim pTuple [.nm 4]), .v (xVar 12)]), .nm 13])) (sRet (xLit (.bool false))) (sNil)) <|
      sSeq (sAsg 4 (xPrim pTuple [.nm 4])) <|
      sSeq (sAsg 6 (xLst [(xPrim pAdd [.nm 4, .ex (xTup [(xLit (.int 0))])]), (xCut (.nm 4) (some (.ex (xLit (.int 1)))) none), (xPrim pList [.nm 4]), (xPrim pAdd [.ex (xTup [(xLit (.int 10))]), .ex (xCut (.nm 4) (some (.ex (xLit (.int 1)))) none)]), (xPrim pAdd [.ex (xTup [(xPrim pNeg [.ex (xLit (.int 1))])]), .ex (xCut (.nm 4) (some (.ex (xLit (.int 1)))) none)]), (xPrim pAdd [.ex (xTup [(xLit (.bool true))]), .ex (xCut (.nm 4) (some (.ex (xLit (.int 1)))) none)])])) <|
      sSeq (sFor (.val (xPrim pAdd [.nm 6, .ex (xLst [(xCall (F "_law_bent") [.v (xVar 0), .io 1, .v (xVar 4)])])])) (.nm 7) (
          sSeq (sAsg 15 (xNot (.ex (xCall (F "_law_are_observed") [.v (xVar 10), .v (xVar 7)])))) <|
          sSeq (sIf (tCmp (xPrim pNe [.ex (xPrim pEq [.ex (xCall (F "_law_fitting_or") [.v (xVar 3), .v (xVar 10), .v (xVar 7), .v (xPrim pNeg [.ex (xLit (.int 1))])]), .ex (xLit (.str "InvalidObserved"))]), .nm 15])) (sRet (xLit (.bool false))) (sNil)) <|
          sIf (tAnd (tNot (tVal (.nm 15))) (tCmp (xPrim pNe [.ex (xCall (F "_law_fitting_or") [.v (xVar 3), .v (xVar 10), .v (xVar 7), .v (xPrim pNeg [.ex (xLit (.int 1))])]), .ex (xLit (.str "InvalidNumber"))]))) (sRet (xLit (.bool false))) (sNil))) <|
      sSeq (sFor (.val (xLst [(xLit (.int 9)), (xPrim pNeg [.ex (xLit (.int 1))]), (xLit .none), (xLit (.bool false)), (xLit (.str "0"))])) (.nm 7) (sIf (tCmp (xPrim pNe [.ex (xCall (F "_law_fitting_or") [.v (xVar 3), .v (xVar 10), .v (xVar 4), .v (xVar 7)]), .ex (xLit (.str "InvalidNumber"))])) (sRet (xLit (.bool false))) (sNil))) <|
      sIf (tCmp (xPrim pNe [.ex (xCall (F "_law_fitting_or") [.v (xVar 3), .v (xPrim pAdd [.ex (xPrim pAdd [.nm 10, .nm 10]), .ex (xTup [(xLit (.str "zz"))])]), .v (xLit (.int 1)), .v (xLit (.int 1))]), .ex (xLit (.str "InvalidLandmarks"))])) (sRet (xLit (.bool false))) (sNil))) <|
  sRet (xLit (.bool true))
class H_law_k21 (T : Nat → Str → Fn) : Prop extends H__law_network T, H__law_table T, H__law_subset T, H__law_pick T, H__law_draw T, H_fitting T, H__law_fitting_or T, H__law_bent T, H__law_are_observed T where
  own_law_k21 : Has T "law" 18 [false] b_law_k21
def b__law_joined (F : Str → Fn) : S :=
  sSeq (sAsg 2 (xCall (F "_law_table") [.v (xTup [(xVar 0), (xVar 1)])])) <|
  sRet (xPrim pLt [.ex (xPrim pMax1 [.ex (xLc [3] (.val (xVar 2)) (.nm 3) [] (xPrim pIx [.nm 2, .nm 3]))]), .ex (xLit (.int 50))])
class H__law_joined (T : Nat → Str → Fn) : Prop extends H__law_table T where
  own__law_joined : Has T "_law_joined" 4 [false, false] b__law_joined
def b__law_pairs (F : Str → Fn) : S :=
  sSeq (sAsg 1 (xLst [])) <|
  sSeq (sFor (.val (xVar 0)) (.nm 2) (sAsg 1 (xPrim pAdd [.nm 1, .ex (xLc [3] (.val (xVar 0)) (.nm 3) [tCmp (xPrim pLt [.nm 2, .nm 3])] (xTup [(xVar 2), (xVar 3)]))]))) <|
  sRet (xVar 1)
class H__law_pairs (T : Nat → Str → Fn) : Prop where
  own__law_pairs : Has T "_law_pairs" 4 [false] b__law_pairs
def b__law_same (F : Str → Fn) : S :=
  sSeq (sIf (tCmp (xPrim pIs [.nm 1, .ex (xLit .none)])) (sRet (xPrim pIs [.nm 0, .ex (xLit .none)])) (sNil)) <|
  sSeq (sIf (tVal (.ex (xPrim (pIsi .bool) [.nm 1]))) (sRet (xAnd (xPrim (pIsi .bool) [.nm 0]) (xPrim pEq [.nm 0, .nm 1]))) (sNil)) <|
  sSeq (sIf (tVal (.ex (xPrim (pIsi .tuple) [.nm 1]))) (
      sSeq (sIf (tOr (tNot (tVal (.ex (xPrim (pIsi .tuple) [.nm 0])))) (tCmp (xPrim pNe [.ex (xPrim pLen [.nm 0]), .ex (xPrim pLen [.nm 1])]))) (sRet (xLit (.bool false))) (sNil)) <|
      sRet (xPrim pAll [.ex (xLc [2, 3] (.zip (xVar 0) (xVar 1)) (.tup [.nm 2, .nm 3]) [] (xCall (F "_law_same") [.v (xVar 2), .v (xVar 3)]))])) (sNil)) <|
  sSeq (sIf (tVal (.ex (xPrim (pIsi .str) [.nm 1]))) (sRet (xAnd (xPrim (pIsi .str) [.nm 0]) (xPrim pEq [.nm 0, .nm 1]))) (sNil)) <|
  sRet (xAnd (xPrim (pIsi .int) [.nm 0]) (xAnd (xNot (.ex (xPrim (pIsi .bool) [.nm 0]))) (xPrim pEq [.nm 0, .nm 1])))
class H__law_same (T : Nat → Str → Fn) : Prop where
  own__law_same : Has T "_law_same" 4 [false, false] b__law_same
def b__law_strength (F : Str → Fn) : S :=
  sSeq (sAsg 3 (xLst [])) <|
  sSeq (sFor (.val (xCall (F "_law_pairs") [.v (xVar 1)])) (.nm 4) (sExpr (xAppend 3 (xPrim pLen [.ex (xLc [5] (.val (xVar 2)) (.nm 5) [tCmp (xPrim pNe [.ex (xPrim pIx [.nm 0, .ex (xTup [(xVar 5), (xPrim pIx [.nm 4, .ex (xLit (.int 0))])])]), .ex (xPrim pIx [.nm 0, .ex (xTup [(xVar 5), (xPrim pIx [.nm 4, .ex (xLit (.int 1))])])])])] (xVar 5))])))) <|
  sRet (xIf (tVal (.nm 3)) (xPrim pMin1 [.nm 3]) (xLit .none))
class H__law_strength (T : Nat → Str → Fn) : Prop extends H__law_pairs T where
  own__law_strength : Has T "_law_strength" 6 [false, false, false] b__law_strength
def b__law_subsets (F : Str → Fn) : S :=
  sSeq (sAsg 1 (xLst [(xTup [])])) <|
  sSeq (sFor (.val (xVar 0)) (.nm 2) (sAsg 1 (xPrim pAdd [.nm 1, .ex (xLc [4] (.val (xVar 1)) (.nm 4) [] (xPrim pAdd [.nm 4, .ex (xTup [(xVar 2)])]))]))) <|
  sRet (xLc [3, 4] (.val (xPrim pSorted [.ex (xLc [4] (.val (xVar 1)) (.nm 4) [] (xTup [(xPrim pLen [.nm 4]), (xVar 4)]))])) (.tup [.nm 3, .nm 4]) [] (xVar 4))
class H__law_subsets (T : Nat → Str → Fn) : Prop where
  own__law_subsets : Has T "_law_subsets" 5 [false] b__law_subsets
def b__law_tree (F : Str → Fn) : S :=
  sSeq (sAsg 3 (xCall (F "_law_network") [.v (xVar 0), .io 1, .v (xVar 2)])) <|
  sSeq (sPar [6, 7] [(xCall (F "_law_shuffled") [.v (xVar 0), .io 1, .v (xPrim pIx [.nm 3, .ex (xLit (.int 0))])]), (xLst [])]) <|
  sSeq (sAsg 4 (xCall (F "_law_pick") [.v (xVar 0), .io 1, .v (xLst [(xLit (.int 1)), (xLit (.int 2)), (xLit (.int 9))])])) <|
  sSeq (sFor (.rng2 (.ex (xLit (.int 1))) (.ex (xPrim pLen [.nm 6]))) (.nm 5) (sExpr (xAppend 7 (xPrim pTuple [.ex (xPrim pSorted [.ex (xLst [(xPrim pIx [.nm 6, .nm 5]), (xPrim pIx [.nm 6, .ex (xPrim pSub [.ex (xPrim pSub [.nm 5, .ex (xLit (.int 1))]), .ex (xCall (F "_law_draw") [.v (xVar 0), .io 1, .v (xPrim pMin2 [.nm 4, .nm 5])])])])])])])))) <|
  sRet (xTup [(xPrim pIx [.nm 3, .ex (xLit (.int 0))]), (xPrim pTuple [.ex (xPrim pSorted [.nm 7])])])
class H__law_tree (T : Nat → Str → Fn) : Prop extends H__law_network T, H__law_pick T, H__law_shuffled T, H__law_draw T where
  own__law_tree : Has T "_law_tree" 8 [false, true, false] b__law_tree
def b_all_readings (F : Str → Fn) : S :=
  sRet (xLc [2] (.val (xPrim pIx [.nm 0, .ex (xLit (.int 0))])) (.nm 2) [] (xCall (F "reading_of") [.v (xVar 0), .v (xVar 1), .v (xVar 2)]))
class H_all_readings (T : Nat → Str → Fn) : Prop extends H_reading_of T where
  own_all_readings : Has T "all_readings" 3 [false, false] b_all_readings
def b_choices (F : Str → Fn) : S :=
  sSeq (sAsg 2 (xLst [(xTup [])])) <|
  sSeq (sFor (.rng1 (.nm 1)) (.nm 3) (sAsg 2 (xLc2 [4, 5] (.val (xVar 2)) (.nm 4) [5] (.val (xVar 0)) (.nm 5) [tOr (tCmp (xPrim pEq [.nm 4, .ex (xTup [])])) (tCmp (xPrim pGt [.nm 5, .ex (xPrim pIx [.nm 4, .ex (xPrim pNeg [.ex (xLit (.int 1))])])]))] (xPrim pAdd [.nm 4, .ex (xTup [(xVar 5)])])))) <|
  sRet (xVar 2)
class H_choices (T : Nat → Str → Fn) : Prop where
  own_choices : Has T "choices" 6 [false, false] b_choices
def b_pairs_of (F : Str → Fn) : S :=
  sSeq (sAsg 1 (xLst [])) <|
  sSeq (sFor (.enum (xVar 0)) (.tup [.nm 2, .nm 3]) (sExpr (xExtend 1 (xLc [4] (.val (xCut (.nm 0) (some (.ex (xPrim pAdd [.nm 2, .ex (xLit (.int 1))]))) none)) (.nm 4) [] (xTup [(xVar 3), (xVar 4)]))))) <|
  sRet (xVar 1)
class H_pairs_of (T : Nat → Str → Fn) : Prop where
  own_pairs_of : Has T "pairs_of" 5 [false] b_pairs_of
def b_confused_pairs (F : Str → Fn) : S :=
  sSeq (sAsg 2 (xPrim pDictZip [.ex (xPrim pIx [.nm 0, .ex (xLit (.int 0))]), .ex (xCall (F "all_readings") [.v (xVar 0), .v (xVar 1)])])) <|
  sRet (xLc [3, 4] (.val (xCall (F "pairs_of") [.v (xPrim pIx [.nm 0, .ex (xLit (.int 0))])])) (.tup [.nm 3, .nm 4]) [tCmp (xPrim pEq [.ex (xPrim pIx [.nm 2, .nm 3]), .ex (xPrim pIx [.nm 2, .nm 4])])] (xTup [(xVar 3), (xVar 4)]))
class H_confused_pairs (T : Nat → Str → Fn) : Prop extends H_all_readings T, H_pairs_of T where
  own_confused_pairs : Has T "confused_pairs" 5 [false, false] b_confused_pairs
def b_confused (F : Str → Fn) : S :=
  sSeq (sExpr (xCall (F "require_landmarks") [.v (xVar 0), .v (xVar 1)])) <|
  sRet (xCall (F "confused_pairs") [.v (xVar 0), .v (xVar 1)])
class H_confused (T : Nat → Str → Fn) : Prop extends H_require_landmarks T, H_confused_pairs T where
  own_confused : Has T "confused" 2 [false, false] b_confused
def b_counts_of (F : Str → Fn) : S :=
  sRet (xLc [2] (.val (xVar 1)) (.nm 2) [] (xPrim pLen [.ex (xLc [3] (.val (xVar 2)) (.nm 3) [tCmp (xPrim pIn [.nm 3, .nm 0])] (xVar 3))]))
class H_counts_of (T : Nat → Str → Fn) : Prop where
  own_counts_of : Has T "counts_of" 4 [false, false] b_counts_of
def b_row_of (F : Str → Fn) : S :=
  sSeq (sAsg 2 (xCall (F "steps_from") [.v (xVar 0), .v (xVar 1)])) <|
  sRet (xPrim pTuple [.ex (xLc [3] (.val (xPrim pIx [.nm 0, .ex (xLit (.int 0))])) (.nm 3) [] (xPrim pIx [.nm 2, .nm 3]))])
class H_row_of (T : Nat → Str → Fn) : Prop extends H_steps_from T where
  own_row_of : Has T "row_of" 4 [false, false] b_row_of
def b_diameter (F : Str → Fn) : S :=
  sSeq (sExpr (xCall (F "require_network") [.v (xVar 0)])) <|
  sRet (xPrim pMax1 [.ex (xLc [1] (.val (xPrim pIx [.nm 0, .ex (xLit (.int 0))])) (.nm 1) [] (xPrim pMax1 [.ex (xCall (F "row_of") [.v (xVar 0), .v (xVar 1)])]))])
class H_diameter (T : Nat → Str → Fn) : Prop extends H_require_network T, H_row_of T where
  own_diameter : Has T "diameter" 2 [false] b_diameter
def b_meets (F : Str → Fn) : S :=
  sRet (xPrim pAll [.ex (xLc [2] (.val (xVar 1)) (.nm 2) [] (xPrim pAny [.ex (xLc [3] (.val (xVar 2)) (.nm 3) [] (xPrim pIn [.nm 3, .nm 0]))]))])
class H_meets (T : Nat → Str → Fn) : Prop where
  own_meets : Has T "meets" 4 [false, false] b_meets
def b_first_meeting (F : Str → Fn) : S :=
  sSeq (sFor (.rng1 (.ex (xPrim pAdd [.ex (xPrim pLen [.nm 0]), .ex (xLit (.int 1))]))) (.nm 2) (sFor (.val (xCall (F "choices") [.v (xVar 0), .v (xVar 2)])) (.nm 3) (sIf (tVal (.ex (xCall (F "meets") [.v (xVar 3), .v (xVar 1)]))) (sRet (xVar 3)) (sNil)))) <|
  sRet (xLit .none)
class H_first_meeting (T : Nat → Str → Fn) : Prop extends H_choices T, H_meets T where
  own_first_meeting : Has T "first_meeting" 4 [false, false] b_first_meeting
def b_table_of (F : Str → Fn) : S :=
  sRet (xDc [1] (.val (xPrim pIx [.nm 0, .ex (xLit (.int 0))])) (.nm 1) (xVar 1) (xCall (F "steps_from") [.v (xVar 0), .v (xVar 1)]))
class H_table_of (T : Nat → Str → Fn) : Prop extends H_steps_from T where
  own_table_of : Has T "table_of" 2 [false] b_table_of
def b_parting (F : Str → Fn) : S :=
  sRet (xPrim pTuple [.ex (xLc [4] (.val (xVar 1)) (.nm 4) [tCmp (xPrim pNe [.ex (xPrim pIx [.ex (xPrim pIx [.nm 0, .nm 4]), .nm 2]), .ex (xPrim pIx [.ex (xPrim pIx [.nm 0, .nm 4]), .nm 3])])] (xVar 4))])
class H_parting (T : Nat → Str → Fn) : Prop where
  own_parting : Has T "parting" 5 [false, false, false, false] b_parting
def b_separator_rows (F : Str → Fn) : S :=
  sSeq (sAsg 1 (xCall (F "table_of") [.v (xVar 0)])) <|
  sRet (xLc [2, 3] (.val (xCall (F "pairs_of") [.v (xPrim pIx [.nm 0, .ex (xLit (.int 0))])])) (.tup [.nm 2, .nm 3]) [] (xCall (F "parting") [.v (xVar 1), .v (xPrim pIx [.nm 0, .ex (xLit (.int 0))]), .v (xVar 2), .v (xVar 3)]))
class H_separator_rows (T : Nat → Str → Fn) : Prop extends H_table_of T, H_parting T, H_pairs_of T where
  own_separator_rows : Has T "separator_rows" 4 [false] b_separator_rows
def b_find_smallest (F : Str → Fn) : S :=
  sRet (xCall (F "first_meeting") [.v (xPrim pIx [.nm 0, .ex (xLit (.int 0))]), .v (xCall (F "separator_rows") [.v (xVar 0)])])
class H_find_smallest (T : Nat → Str → Fn) : Prop extends H_first_meeting T, H_separator_rows T where
  own_find_smallest : Has T "find_smallest" 1 [false] b_find_smallest
def b_dimension (F : Str → Fn) : S :=
  sSeq (sExpr (xCall (F "require_network") [.v (xVar 0)])) <|
  sRet (xPrim pLen [.ex (xCall (F "find_smallest") [.v (xVar 0)])])
class H_dimension (T : Nat → Str → Fn) : Prop extends H_require_network T, H_find_smallest T where
  own_dimension : Has T "dimension" 1 [false] b_dimension
def b_require_node (F : Str → Fn) : S :=
  sIf (tOr (tNot (tVal (.ex (xPrim (pIsi .str) [.nm 1])))) (tCmp (xPrim pNin [.nm 1, .ex (xPrim pIx [.nm 0, .ex (xLit (.int 0))])]))) (sRaise "InvalidNode") (sNil)
class H_require_node (T : Nat → Str → Fn) : Prop where
  own_require_node : Has T "require_node" 2 [false, false] b_require_node
def b_distance (F : Str → Fn) : S :=
  sSeq (sExpr (xCall (F "require_network") [.v (xVar 0)])) <|
  sSeq (sExpr (xCall (F "require_node") [.v (xVar 0), .v (xVar 1)])) <|
  sSeq (sExpr (xCall (F "require_node") [.v (xVar 0), .v (xVar 2)])) <|
  sRet (xPrim pIx [.ex (xCall (F "steps_from") [.v (xVar 0), .v (xVar 1)]), .nm 2])
class H_distance (T : Nat → Str → Fn) : Prop extends H_require_network T, H_require_node T, H_steps_from T where
  own_distance : Has T "distance" 3 [false, false, false] b_distance
def b_distances (F : Str → Fn) : S :=
  sSeq (sExpr (xCall (F "require_network") [.v (xVar 0)])) <|
  sSeq (sExpr (xCall (F "require_node") [.v (xVar 0), .v (xVar 1)])) <|
  sRet (xCall (F "row_of") [.v (xVar 0), .v (xVar 1)])
class H_distances (T : Nat → Str → Fn) : Prop extends H_require_network T, H_require_node T, H_row_of T where
  own_distances : Has T "distances" 2 [false, false] b_distances
def b_edge_between (F : Str → Fn) : S :=
  sSeq (sExpr (xCall (F "require_network") [.v (xVar 0)])) <|
  sSeq (sExpr (xCall (F "require_node") [.v (xVar 0), .v (xVar 1)])) <|
  sSeq (sExpr (xCall (F "require_node") [.v (xVar 0), .v (xVar 2)])) <|
  sSeq (sIf (tCmp (xPrim pEq [.nm 1, .nm 2])) (sRaise "InvalidEdge") (sNil)) <|
  sRet (xTup [(xPrim pMin2 [.nm 1, .nm 2]), (xPrim pMax2 [.nm 1, .nm 2])])
class H_edge_between (T : Nat → Str → Fn) : Prop extends H_require_network T, H_require_node T where
  own_edge_between : Has T "edge_between" 3 [false, false, false] b_edge_between
def b_foot_of (F : Str → Fn) : S :=
  sSeq (sPar [2, 3] [(xVar 1), (xPrim pIx [.ex (xCall (F "beside") [.v (xPrim pIx [.nm 0, .ex (xLit (.int 1))]), .v (xVar 1)]), .ex (xLit (.int 0))])]) <|
  sSeq (sWhile (tCmp (xPrim pEq [.ex (xPrim pLen [.ex (xCall (F "beside") [.v (xPrim pIx [.nm 0, .ex (xLit (.int 1))]), .v (xVar 3)])]), .ex (xLit (.int 2))])) (
      sSeq (sAsg 4 (xLc [5] (.val (xCall (F "beside") [.v (xPrim pIx [.nm 0, .ex (xLit (.int 1))]), .v (xVar 3)])) (.nm 5) [tCmp (xPrim pNe [.nm 5, .nm 2])] (xVar 5))) <|
      sPar [2, 3] [(xVar 3), (xPrim pIx [.nm 4, .ex (xLit (.int 0))])])) <|
  sRet (xVar 3)
class H_foot_of (T : Nat → Str → Fn) : Prop extends H_beside T where
  own_foot_of : Has T "foot_of" 6 [false, false] b_foot_of
def b_has_tree (F : Str → Fn) : S :=
  sRet (xPrim pEq [.ex (xPrim pLen [.ex (xPrim pIx [.nm 0, .ex (xLit (.int 1))])]), .ex (xPrim pSub [.ex (xPrim pLen [.ex (xPrim pIx [.nm 0, .ex (xLit (.int 0))])]), .ex (xLit (.int 1))])])
class H_has_tree (T : Nat → Str → Fn) : Prop where
  own_has_tree : Has T "has_tree" 1 [false] b_has_tree
def b_has_path (F : Str → Fn) : S :=
  sRet (xAnd (xCall (F "has_tree") [.v (xVar 0)]) (xPrim pAll [.ex (xLc [1] (.val (xPrim pIx [.nm 0, .ex (xLit (.int 0))])) (.nm 1) [] (xPrim pLe [.ex (xPrim pLen [.ex (xCall (F "beside") [.v (xPrim pIx [.nm 0, .ex (xLit (.int 1))]), .v (xVar 1)])]), .ex (xLit (.int 2))]))]))
class H_has_path (T : Nat → Str → Fn) : Prop extends H_has_tree T, H_beside T where
  own_has_path : Has T "has_path" 2 [false] b_has_path
def b_identifies (F : Str → Fn) : S :=
  sSeq (sExpr (xCall (F "require_landmarks") [.v (xVar 0), .v (xVar 1)])) <|
  sRet (xPrim pEq [.ex (xCall (F "confused_pairs") [.v (xVar 0), .v (xVar 1)]), .ex (xLst [])])
class H_identifies (T : Nat → Str → Fn) : Prop extends H_require_landmarks T, H_confused_pairs T where
  own_identifies : Has T "identifies" 2 [false, false] b_identifies
def b_is_path (F : Str → Fn) : S :=
  sSeq (sExpr (xCall (F "require_network") [.v (xVar 0)])) <|
  sRet (xCall (F "has_path") [.v (xVar 0)])
class H_is_path (T : Nat → Str → Fn) : Prop extends H_require_network T, H_has_path T where
  own_is_path : Has T "is_path" 1 [false] b_is_path
def b_is_tree (F : Str → Fn) : S :=
  sSeq (sExpr (xCall (F "require_network") [.v (xVar 0)])) <|
  sRet (xCall (F "has_tree") [.v (xVar 0)])
class H_is_tree (T : Nat → Str → Fn) : Prop extends H_require_network T, H_has_tree T where
  own_is_tree : Has T "is_tree" 1 [false] b_is_tree
def b_leaves_of (F : Str → Fn) : S :=
  sRet (xLc [1] (.val (xPrim pIx [.nm 0, .ex (xLit (.int 0))])) (.nm 1) [tCmp (xPrim pEq [.ex (xPrim pLen [.ex (xCall (F "beside") [.v (xPrim pIx [.nm 0, .ex (xLit (.int 1))]), .v (xVar 1)])]), .ex (xLit (.int 1))])] (xVar 1))
class H_leaves_of (T : Nat → Str → Fn) : Prop extends H_beside T where
  own_leaves_of : Has T "leaves_of" 2 [false] b_leaves_of
def b_neighbours (F : Str → Fn) : S :=
  sSeq (sExpr (xCall (F "require_network") [.v (xVar 0)])) <|
  sSeq (sExpr (xCall (F "require_node") [.v (xVar 0), .v (xVar 1)])) <|
  sRet (xPrim pTuple [.ex (xCall (F "beside") [.v (xPrim pIx [.nm 0, .ex (xLit (.int 1))]), .v (xVar 1)])])
class H_neighbours (T : Nat → Str → Fn) : Prop extends H_require_network T, H_require_node T, H_beside T where
  own_neighbours : Has T "neighbours" 2 [false, false] b_neighbours
def b_require_connected (F : Str → Fn) : S :=
  sSeq (sIf (tNot (tVal (.ex (xCall (F "is_connected") [.v (xVar 0)])))) (sRaise "Disconnected") (sNil)) <|
  sRet (xVar 0)
class H_require_connected (T : Nat → Str → Fn) : Prop extends H_is_connected T where
  own_require_connected : Has T "require_connected" 1 [false] b_require_connected
def b_require_tree (F : Str → Fn) : S :=
  sSeq (sExpr (xCall (F "require_network") [.v (xVar 0)])) <|
  sIf (tNot (tVal (.ex (xCall (F "has_tree") [.v (xVar 0)])))) (sRaise "NotATree") (sNil)
class H_require_tree (T : Nat → Str → Fn) : Prop extends H_require_network T, H_has_tree T where
  own_require_tree : Has T "require_tree" 1 [false] b_require_tree
def b_separators (F : Str → Fn) : S :=
  sSeq (sExpr (xCall (F "require_network") [.v (xVar 0)])) <|
  sSeq (sExpr (xCall (F "require_node") [.v (xVar 0), .v (xVar 1)])) <|
  sSeq (sExpr (xCall (F "require_node") [.v (xVar 0), .v (xVar 2)])) <|
  sRet (xCall (F "parting") [.v (xCall (F "table_of") [.v (xVar 0)]), .v (xPrim pIx [.nm 0, .ex (xLit (.int 0))]), .v (xVar 1), .v (xVar 2)])
class H_separators (T : Nat → Str → Fn) : Prop extends H_require_network T, H_require_node T, H_parting T, H_table_of T where
  own_separators : Has T "separators" 3 [false, false, false] b_separators
def b_smallest (F : Str → Fn) : S :=
  sSeq (sExpr (xCall (F "require_network") [.v (xVar 0)])) <|
  sRet (xCall (F "find_smallest") [.v (xVar 0)])
class H_smallest (T : Nat → Str → Fn) : Prop extends H_require_network T, H_find_smallest T where
  own_smallest : Has T "smallest" 1 [false] b_smallest
def b_smallest_strong (F : Str → Fn) : S :=
  sSeq (sExpr (xCall (F "require_network") [.v (xVar 0)])) <|
  sSeq (sIf (tCmp (xPrim pEq [.ex (xPrim pLen [.ex (xPrim pIx [.nm 0, .ex (xLit (.int 0))])]), .ex (xLit (.int 1))])) (sRaise "TooSmall") (sNil)) <|
  sSeq (sIf (tNot (tVal (.ex (xCall (F "is_integer") [.v (xVar 1), .v (xLit (.int 1)), .v (xLit (.int 8))])))) (sRaise "InvalidNumber") (sNil)) <|
  sSeq (sAsg 2 (xCall (F "separator_rows") [.v (xVar 0)])) <|
  sSeq (sFor (.rng1 (.ex (xPrim pAdd [.ex (xPrim pLen [.ex (xPrim pIx [.nm 0, .ex (xLit (.int 0))])]), .ex (xLit (.int 1))]))) (.nm 3) (sFor (.val (xCall (F "choices") [.v (xPrim pIx [.nm 0, .ex (xLit (.int 0))]), .v (xVar 3)])) (.nm 4) (sIf (tCmp (xPrim pGe [.ex (xPrim pMin1 [.ex (xCall (F "counts_of") [.v (xVar 4), .v (xVar 2)])]), .nm 1])) (sRet (xVar 4)) (sNil)))) <|
  sRet (xLit .none)
class H_smallest_strong (T : Nat → Str → Fn) : Prop extends H_require_network T, H_separator_rows T, H_is_integer T, H_choices T, H_counts_of T where
  own_smallest_strong : Has T "smallest_strong" 5 [false, false] b_smallest_strong
def b_wider (F : Str → Fn) : S :=
  sSeq (sAsg 2 (xPrim pList [.nm 1])) <|
  sSeq (sFor (.val (xVar 1)) (.nm 3) (sExpr (xExtend 2 (xCall (F "beside") [.v (xPrim pIx [.nm 0, .ex (xLit (.int 1))]), .v (xVar 3)])))) <|
  sRet (xPrim pTuple [.ex (xLc [3] (.val (xPrim pIx [.nm 0, .ex (xLit (.int 0))])) (.nm 3) [tCmp (xPrim pIn [.nm 3, .nm 2])] (xVar 3))])
class H_wider (T : Nat → Str → Fn) : Prop extends H_beside T where
  own_wider : Has T "wider" 4 [false, false] b_wider
def b_spread (F : Str → Fn) : S :=
  sSeq (sExpr (xCall (F "require_network") [.v (xVar 0)])) <|
  sSeq (sIf (tNot (tVal (.ex (xCall (F "are_nodes") [.v (xVar 0), .v (xVar 1)])))) (sRaise "InvalidLandmarks") (sNil)) <|
  sRet (xCall (F "wider") [.v (xVar 0), .v (xVar 1)])
class H_spread (T : Nat → Str → Fn) : Prop extends H_require_network T, H_wider T, H_are_nodes T where
  own_spread : Has T "spread" 2 [false, false] b_spread
def b_strength (F : Str → Fn) : S :=
  sSeq (sExpr (xCall (F "require_landmarks") [.v (xVar 0), .v (xVar 1)])) <|
  sRet (xIf (tCmp (xPrim pGt [.ex (xPrim pLen [.ex (xPrim pIx [.nm 0, .ex (xLit (.int 0))])]), .ex (xLit (.int 1))])) (xPrim pMin1 [.ex (xCall (F "counts_of") [.v (xVar 1), .v (xCall (F "separator_rows") [.v (xVar 0)])])]) (xLit .none))
class H_strength (T : Nat → Str → Fn) : Prop extends H_require_landmarks T, H_counts_of T, H_separator_rows T where
  own_strength : Has T "strength" 2 [false, false] b_strength
def b_with_edge (F : Str → Fn) : S :=
  sSeq (sAsg 3 (xCall (F "edge_between") [.v (xVar 0), .v (xVar 1), .v (xVar 2)])) <|
  sSeq (sIf (tCmp (xPrim pIn [.nm 3, .ex (xPrim pIx [.nm 0, .ex (xLit (.int 1))])])) (sRaise "InvalidEdge") (sNil)) <|
  sRet (xTup [(xPrim pIx [.nm 0, .ex (xLit (.int 0))]), (xPrim pTuple [.ex (xPrim pSorted [.ex (xPrim pAdd [.ex (xPrim pIx [.nm 0, .ex (xLit (.int 1))]), .ex (xTup [(xVar 3)])])])])])
class H_with_edge (T : Nat → Str → Fn) : Prop extends H_edge_between T where
  own_with_edge : Has T "with_edge" 4 [false, false, false] b_with_edge
def b_without_edge (F : Str → Fn) : S :=
  sSeq (sAsg 3 (xCall (F "edge_between") [.v (xVar 0), .v (xVar 1), .v (xVar 2)])) <|
  sSeq (sIf (tCmp (xPrim pNin [.nm 3, .ex (xPrim pIx [.nm 0, .ex (xLit (.int 1))])])) (sRaise "InvalidEdge") (sNil)) <|
  sRet (xCall (F "require_connected") [.v (xTup [(xPrim pIx [.nm 0, .ex (xLit (.int 0))]), (xPrim pTuple [.ex (xLc [4] (.val (xPrim pIx [.nm 0, .ex (xLit (.int 1))])) (.nm 4) [tCmp (xPrim pNe [.nm 4, .nm 3])] (xVar 4))])])])
class H_without_edge (T : Nat → Str → Fn) : Prop extends H_edge_between T, H_require_connected T where
  own_without_edge : Has T "without_edge" 5 [false, false, false] b_without_edge
end G6
namespace G6
open PySem PySem.W
local macro_rules | `(tactic| tm_side) => `(tactic| first | with_reducible assumption | (with_reducible rfl) | (simp only [plain_none, plain_bool, plain_int, plain_str, r_plain_list, r_plain_tuple, plainAll_nil, plainAll_cons, plainAll_app, pr_plain, plainAll_strs, plainAll_ints, plainAll_prs, plainAll_sTs, Bool.and_true, Bool.and_self, Bool.true_and, List.map_append]; done) | (simp only [List.length_map, List.length_append, List.length_cons, List.length_nil, sizeLine_eq, sortE_len, List.length_take, List.length_reverse, List.length_drop]; omega) | decide +kernel)
local macro_rules | `(tactic| tm_run) => `(tactic| simp -implicitDefEqProofs -failIfUnchanged (disch := tm_side) only [bok, bex, nm_ev, ex_ev', slotOk_some, kEx_eq, r_pks_nil, r_pks_cons, kPks_eq, kPks2_eq, tget_r, tget_l, slotV_some, tgets_nil, tgets_cons, cons2_eq, kOpt_eq, kPrim2_eq, kPrim_eq, xPrim_eq, xVar_eq, kVar_eq, xLit_eq, r_xs_nil, r_xs_cons, kXs_eq, kXs2_eq, xTup_eq, xLst_eq, kTup_eq, kLst_eq, tVal_eq, kTv_eq, kTv_bool, kTv_list, kTv_tuple, kTv_int, kTv_none, tCmp_eq, kTc_eq, tNot_eq, kNot_eq, tAnd_eq, kAnd_t, kAnd_f, tOr_eq, kOr_t, kOr_f, xIf_eq, kXif_t, kXif_f, xAnd_eq, kXand_t, kXand_f, xOr_eq, kXor_t, kXor_f, xNot_eq, kXnot_eq, kXnot_bool, kXnot_list, kXnot_tuple, kXnot_int, kXnot_none, asB_eq, kC5_eq, kC4_eq, kC3_eq, kC2c_t, kC2c_f, kC2b_eq, kC2_eq, kC1_eq, xCmp2_eq, r_ars_nil, r_ars_v, ars_t, ars_i, kArsV_eq, kArsT_eq, kArsI_eq, kArs2_eq, consV_eq, consI_eq, av_nil, av_v, av_t, av_i, po_nil, po_v, po_i, po_t, kCall4_eq, kCall3_ok, kCall3_ex, kCall2_eq, kCall_eq, xCall_eq, it_val, kIval_list, kIval_tuple, kIval_dict, kIval_str, it_r1, kR1_eq, kR1b_eq, it_r2, kR2_eq, kR2b_eq, it_enum, kEnum_tuple, kEnum_list, it_zip, kZip_eq, kZip2_l, kZip2_lt, kZip2_tl, kZip2_t, xAppend_eq, kAp0_eq, kApp_eq, kApp2_eq, xExtend_eq, kEx0_eq, kExt_eq, kExt2_eq, kPop_eq, xPop_eq, kPop0_eq, xPop0_eq, kPopL_snoc, kGet2_eq, kGet1_eq, kGet0_eq, kGet_eq, xGet_eq, asI_eq, kI2_eq, kI_eq, evI_none, evI_some, kCut3_eq, kCut2_eq, kCut1_eq, kCut_eq, xCut_eq, sSeq_eq, kSeq_n, kSeq_r, sExpr_eq, kExpr_eq, sRet_eq, kRet_eq, sRetN_eq, sNil_eq, sIf_eq, kIf_t, kIf_f, sAsg_eq, kAsg_eq, kPut_eq, sUnp_eq, kUnp_eq, put_nm, put_tup, putAll_nil, putAll_nm, kPA_eq, putAll_tup, r_fs_nil, r_fs_cons, kFs_eq, kFs2_eq, sPar_eq, kPar_eq, setAll_nil, setAll_cons, sAug_eq, kAug2_eq, kAug3_eq, sFor_eq, kFor_eq, sRaise_eq, sTry_eq, kTry_ok, kTry_hit, kTry_miss, sPutI_eq, kPut1_eq, kPu0_eq, kPut2_eq, kPut3_d, kPut3_l, fn_eq, kFn_ok, kFn_ex, kFn2_n, kFn2_r, outs_nil, outs_cons, outs2_eq, kLcE_eq, kLcT_eq, wipeR_ok, wipeR_if, kLc_eq, lcOne_eq, allT_nil, allT_cons, kAllT_nil, wipe_nil, wipe_cons, ite_ok, ite_tt, kOne_eq, forOne_eq, forGo_nil, pIsi_eq, isTy_tt, isTy_tl, isTy_ts, isTy_ti, isTy_tb, isTy_tn, isTy_st, isTy_sl, isTy_ss, isTy_si, isTy_sb, isTy_sn, isTy_it, isTy_il, isTy_is, isTy_ii, isTy_ib, isTy_in, isTy_bt, isTy_bl, isTy_bs, isTy_bi, isTy_bb, isTy_bn, pLen_list, pLen_tuple, pLen_dict, pLen_str, pAdd_int, pAdd_list, pAdd_tuple, pSub_int, pNeg_int, pAbs_int, pEq_str, pNe_str, pEq_int, pNe_int, pEq_bool, pNe_bool, pEq_sT, pNe_sT, pEq_sL, pNe_sL, pEq_pL, pNe_pL, pEq_sTL, pNe_sTL, pLt_int, pGt_int, pLe_int, pGe_int, pLt_str, pGt_str, pLe_str, pGe_str, pIn_sT, pIn_sL, pNin_sT, pNin_sL, pIn_pT, pIn_pL, pNin_pT, pNin_pL, pIn_pT', pIn_pL', pNin_pT', pNin_pL', pIn_sTL, pNin_sTL, pIn_sTT, pNin_sTT, pIs_none, pIsn_none, pIx_t0, pIx_t1, pIx_t2, pIx_mt0, pIx_ml0, pIx_l0, pAll_map, pAny_map, pAll_two, pAny_two, pTuple_list, pTuple_tuple, pList_list, pList_tuple, pInt_bool, pInt_int, pMax2_int, pMin2_int, pRev_list, pRev_tuple, pCut_list, pCut_tuple, cutL_to, cutL_from, pSorted_sL, pSorted_sT, pSorted_pL, pSorted_pT, pIn_sd, pNin_sd, pMul_if, pMul_0, pMul_1, cut_2, cut_1, cut1_, pSorted_one, pMin2_str, pMax2_str, List.getElem?_cons_zero, List.getElem?_cons_succ, List.set_cons_zero, List.set_cons_succ, ioSlots, startE, List.zip_cons_cons, List.zip_nil_left, List.zip_nil_right, List.map_cons, List.map_nil, List.cons_append, List.nil_append, List.append_nil, List.replicate_succ, List.replicate_zero, List.length_cons, List.length_nil, Bool.not_true, Bool.not_false, Bool.not_not, Nat.reduceAdd, Nat.reduceSub, Int.reduceNeg, Int.cast_ofNat_Int, Int.reduceEq, List.take_succ_cons, List.take_zero, List.take_nil, List.drop_succ_cons, List.drop_zero, List.drop_nil, decide_true, decide_false, isNone, List.isEmpty_cons, List.isEmpty_nil, Bool.false_eq_true, if_false, if_true])
local macro_rules | `(tactic| walk2) => `(tactic| simp -implicitDefEqProofs -failIfUnchanged (disch := tm_side) only [*, bok, bex, nm_ev, ex_ev', slotOk_some, kEx_eq, r_pks_nil, r_pks_cons, kPks_eq, kPks2_eq, tget_r, tget_l, slotV_some, tgets_nil, tgets_cons, cons2_eq, kOpt_eq, kPrim2_eq, kPrim_eq, xPrim_eq, xVar_eq, kVar_eq, xLit_eq, r_xs_nil, r_xs_cons, kXs_eq, kXs2_eq, xTup_eq, xLst_eq, kTup_eq, kLst_eq, tVal_eq, kTv_eq, kTv_bool, kTv_list, kTv_tuple, kTv_int, kTv_none, tCmp_eq, kTc_eq, tNot_eq, kNot_eq, tAnd_eq, kAnd_t, kAnd_f, tOr_eq, kOr_t, kOr_f, xIf_eq, kXif_t, kXif_f, xAnd_eq, kXand_t, kXand_f, xOr_eq, kXor_t, kXor_f, xNot_eq, kXnot_eq, kXnot_bool, kXnot_list, kXnot_tuple, kXnot_int, kXnot_none, asB_eq, kC5_eq, kC4_eq, kC3_eq, kC2c_t, kC2c_f, kC2b_eq, kC2_eq, kC1_eq, xCmp2_eq, r_ars_nil, r_ars_v, ars_t, ars_i, kArsV_eq, kArsT_eq, kArsI_eq, kArs2_eq, consV_eq, consI_eq, av_nil, av_v, av_t, av_i, po_nil, po_v, po_i, po_t, kCall4_eq, kCall3_ok, kCall3_ex, kCall2_eq, kCall_eq, xCall_eq, it_val, kIval_list, kIval_tuple, kIval_dict, kIval_str, it_r1, kR1_eq, kR1b_eq, it_r2, kR2_eq, kR2b_eq, it_enum, kEnum_tuple, kEnum_list, it_zip, kZip_eq, kZip2_l, kZip2_lt, kZip2_tl, kZip2_t, xAppend_eq, kAp0_eq, kApp_eq, kApp2_eq, xExtend_eq, kEx0_eq, kExt_eq, kExt2_eq, kPop_eq, xPop_eq, kPop0_eq, xPop0_eq, kPopL_snoc, kGet2_eq, kGet1_eq, kGet0_eq, kGet_eq, xGet_eq, asI_eq, kI2_eq, kI_eq, evI_none, evI_some, kCut3_eq, kCut2_eq, kCut1_eq, kCut_eq, xCut_eq, sSeq_eq, kSeq_n, kSeq_r, sExpr_eq, kExpr_eq, sRet_eq, kRet_eq, sRetN_eq, sNil_eq, sIf_eq, kIf_t, kIf_f, sAsg_eq, kAsg_eq, kPut_eq, sUnp_eq, kUnp_eq, put_nm, put_tup, putAll_nil, putAll_nm, kPA_eq, putAll_tup, r_fs_nil, r_fs_cons, kFs_eq, kFs2_eq, sPar_eq, kPar_eq, setAll_nil, setAll_cons, sAug_eq, kAug2_eq, kAug3_eq, sFor_eq, kFor_eq, sRaise_eq, sTry_eq, kTry_ok, kTry_hit, kTry_miss, sPutI_eq, kPut1_eq, kPu0_eq, kPut2_eq, kPut3_d, kPut3_l, fn_eq, kFn_ok, kFn_ex, kFn2_n, kFn2_r, outs_nil, outs_cons, outs2_eq, kLcE_eq, kLcT_eq, wipeR_ok, wipeR_if, kLc_eq, lcOne_eq, allT_nil, allT_cons, kAllT_nil, wipe_nil, wipe_cons, ite_ok, ite_tt, kOne_eq, forOne_eq, forGo_nil, pIsi_eq, isTy_tt, isTy_tl, isTy_ts, isTy_ti, isTy_tb, isTy_tn, isTy_st, isTy_sl, isTy_ss, isTy_si, isTy_sb, isTy_sn, isTy_it, isTy_il, isTy_is, isTy_ii, isTy_ib, isTy_in, isTy_bt, isTy_bl, isTy_bs, isTy_bi, isTy_bb, isTy_bn, pLen_list, pLen_tuple, pLen_dict, pLen_str, pAdd_int, pAdd_list, pAdd_tuple, pSub_int, pNeg_int, pAbs_int, pEq_str, pNe_str, pEq_int, pNe_int, pEq_bool, pNe_bool, pEq_sT, pNe_sT, pEq_sL, pNe_sL, pEq_pL, pNe_pL, pEq_sTL, pNe_sTL, pLt_int, pGt_int, pLe_int, pGe_int, pLt_str, pGt_str, pLe_str, pGe_str, pIn_sT, pIn_sL, pNin_sT, pNin_sL, pIn_pT, pIn_pL, pNin_pT, pNin_pL, pIn_pT', pIn_pL', pNin_pT', pNin_pL', pIn_sTL, pNin_sTL, pIn_sTT, pNin_sTT, pIs_none, pIsn_none, pIx_t0, pIx_t1, pIx_t2, pIx_mt0, pIx_ml0, pIx_l0, pAll_map, pAny_map, pAll_two, pAny_two, pTuple_list, pTuple_tuple, pList_list, pList_tuple, pInt_bool, pInt_int, pMax2_int, pMin2_int, pRev_list, pRev_tuple, pCut_list, pCut_tuple, cutL_to, cutL_from, pSorted_sL, pSorted_sT, pSorted_pL, pSorted_pT, pIn_sd, pNin_sd, pMul_if, pMul_0, pMul_1, cut_2, cut_1, cut1_, pSorted_one, pMin2_str, pMax2_str, List.getElem?_cons_zero, List.getElem?_cons_succ, List.set_cons_zero, List.set_cons_succ, ioSlots, startE, List.zip_cons_cons, List.zip_nil_left, List.zip_nil_right, List.map_cons, List.map_nil, List.cons_append, List.nil_append, List.append_nil, List.replicate_succ, List.replicate_zero, List.length_cons, List.length_nil, Bool.not_true, Bool.not_false, Bool.not_not, Nat.reduceAdd, Nat.reduceSub, Int.reduceNeg, Int.cast_ofNat_Int, Int.reduceEq, List.take_succ_cons, List.take_zero, List.take_nil, List.drop_succ_cons, List.drop_zero, List.drop_nil, decide_true, decide_false, isNone, List.isEmpty_cons, List.isEmpty_nil, Bool.false_eq_true, if_false, if_true])

/-! ### networks, in plain words -/
abbrev Es := List (Str × Str)
def adj (es : Es) (a b : Str) : Bool := decide ((a, b) ∈ es) || decide ((b, a) ∈ es)
theorem adj_comm (es : Es) (a b : Str) : adj es a b = adj es b a := Bool.or_comm _ _
theorem adj_iff {es : Es} {a b : Str} : adj es a b = true ↔ (a, b) ∈ es ∨ (b, a) ∈ es := by simp [adj]
inductive Walk (es : Es) : Nat → Str → Str → Prop
  | nil (a : Str) : Walk es 0 a a
  | cons {k : Nat} {a b c : Str} : adj es a b = true → Walk es k b c → Walk es (k + 1) a c
theorem Walk.one {es : Es} {a b : Str} (h : adj es a b = true) : Walk es 1 a b := .cons h (.nil b)
theorem Walk.app {es : Es} {k l : Nat} {a b c : Str} (h1 : Walk es k a b) (h2 : Walk es l b c) : Walk es (k + l) a c := by
  induction h1 with
  | nil => rw [Nat.zero_add]; exact h2
  | cons h _ ih => rw [Nat.add_right_comm]; exact .cons h (ih h2)
theorem Walk.snoc {es : Es} {k : Nat} {a b c : Str} (h1 : Walk es k a b) (h2 : adj es b c = true) : Walk es (k + 1) a c := h1.app (.one h2)
theorem Walk.symm {es : Es} {k : Nat} {a b : Str} (h : Walk es k a b) : Walk es k b a := by
  induction h with
  | nil => exact .nil _
  | cons h _ ih => exact ih.snoc (by rw [adj_comm]; exact h)
theorem Walk.zero {es : Es} {a b : Str} (h : Walk es 0 a b) : a = b := by cases h; rfl
theorem Walk.last {es : Es} {k : Nat} {a c : Str} (h : Walk es (k + 1) a c) : ∃ b, Walk es k a b ∧ adj es b c = true := by
  have h' := h.symm
  cases h' with
  | cons h1 h2 => exact ⟨_, h2.symm, by rw [adj_comm]; exact h1⟩
theorem Walk.mono {es fs : Es} (hs : ∀ a b, adj es a b = true → adj fs a b = true) {k : Nat} {a b : Str} (h : Walk es k a b) : Walk fs k a b := by
  induction h with
  | nil => exact .nil _
  | cons h _ ih => exact .cons (hs _ _ h) ih
/-- the least number with p -/
theorem least_of {p : Nat → Prop} (h : ∃ n, p n) : ∃ n, p n ∧ ∀ m, m < n → ¬ p m := by
  obtain ⟨n, hn⟩ := h
  induction n using Nat.strongRecOn with
  | ind n ih =>
    by_cases q : ∃ m, m < n ∧ p m
    · obtain ⟨m, h1, h2⟩ := q
      exact ih m h1 h2
    · exact ⟨n, hn, fun m h1 h2 => q ⟨m, h1, h2⟩⟩
/-- d is the distance of a and b -/
def IsD (es : Es) (a b : Str) (d : Nat) : Prop := Walk es d a b ∧ ∀ k, k < d → ¬ Walk es k a b
theorem IsD.uniq {es : Es} {a b : Str} {d e : Nat} (h1 : IsD es a b d) (h2 : IsD es a b e) : d = e := by
  rcases Nat.lt_trichotomy d e with h | h | h
  · exact absurd h1.1 (h2.2 d h)
  · exact h
  · exact absurd h2.1 (h1.2 e h)
theorem r_isD_of {es : Es} {a b : Str} {k : Nat} (h : Walk es k a b) : ∃ d, IsD es a b d ∧ d ≤ k := by
  obtain ⟨d, h1, h2⟩ := least_of (p := fun k => Walk es k a b) ⟨k, h⟩
  refine ⟨d, ⟨h1, h2⟩, ?_⟩
  rcases Nat.lt_or_ge k d with q | q
  · exact absurd h (h2 k q)
  · exact q
theorem IsD.symm {es : Es} {a b : Str} {d : Nat} (h : IsD es a b d) : IsD es b a d := ⟨h.1.symm, fun k hk w => h.2 k hk w.symm⟩
theorem IsD.self (es : Es) (a : Str) : IsD es a a 0 := ⟨.nil a, fun k hk => absurd hk (Nat.not_lt_zero k)⟩
theorem IsD.le {es : Es} {a b : Str} {d k : Nat} (h : IsD es a b d) (w : Walk es k a b) : d ≤ k := by
  rcases Nat.lt_or_ge k d with q | q
  · exact absurd w (h.2 k q)
  · exact q
theorem IsD.zero {es : Es} {a b : Str} (h : IsD es a b 0) : a = b := h.1.zero
/-- the node before the last on a shortest way -/
theorem IsD.pred {es : Es} {a b : Str} {d : Nat} (h : IsD es a b (d + 1)) : ∃ c, IsD es a c d ∧ adj es c b = true := by
  obtain ⟨c, w, q⟩ := h.1.last
  refine ⟨c, ⟨w, fun k hk w2 => h.2 (k + 1) (by omega) (w2.snoc q)⟩, q⟩
open Classical in
noncomputable def dist (es : Es) (a b : Str) : Nat := if h : ∃ d, IsD es a b d then h.choose else 0
theorem dist_eq {es : Es} {a b : Str} {d : Nat} (h : IsD es a b d) : dist es a b = d := by
  have e : ∃ d, IsD es a b d := ⟨d, h⟩
  unfold dist
  rw [dif_pos e]
  exact e.choose_spec.uniq h
theorem dist_self (es : Es) (a : Str) : dist es a a = 0 := dist_eq (.self es a)
/-! the plain conditions -/
def lowS (s : Str) : Bool := s.cps.toList.all fun c => decide (97 ≤ c) && decide (c ≤ 122)
/-- a name -/
def NameP (s : Str) : Prop := 1 ≤ s.length ∧ s.length ≤ 3 ∧ lowS s = true
/-- all but connected -/
structure Pre (ns : List Str) (es : Es) : Prop where
  asc : Asc .str ns
  ne : ns ≠ []
  len : ns.length ≤ 8
  name : ∀ a ∈ ns, NameP a
  easc : Asc pr es
  mem : ∀ p ∈ es, p.1 ∈ ns ∧ p.2 ∈ ns ∧ nlt p.1 p.2 = true
structure Net (ns : List Str) (es : Es) : Prop extends Pre ns es where
  conn : ∀ a ∈ ns, ∀ b ∈ ns, ∃ k, Walk es k a b
section
variable {ns : List Str} {es : Es}
theorem Pre.adj_mem (h : Pre ns es) {a b : Str} (q : adj es a b = true) : a ∈ ns ∧ b ∈ ns := by
  rcases adj_iff.mp q with q | q
  · exact ⟨(h.mem _ q).1, (h.mem _ q).2.1⟩
  · exact ⟨(h.mem _ q).2.1, (h.mem _ q).1⟩
theorem Pre.adj_ne (h : Pre ns es) {a b : Str} (q : adj es a b = true) : a ≠ b := by
  rcases adj_iff.mp q with q | q
  · exact nlt_ne (h.mem _ q).2.2
  · exact (nlt_ne (h.mem _ q).2.2).symm
theorem Pre.adj_self (h : Pre ns es) (a : Str) : adj es a a = false := by
  cases q : adj es a a with
  | false => rfl
  | true => exact absurd rfl (h.adj_ne q)
theorem Pre.walk_mem (h : Pre ns es) {k : Nat} {a b : Str} (w : Walk es k a b) (ha : a ∈ ns) : b ∈ ns := by
  induction w with
  | nil => exact ha
  | cons q _ ih => exact ih (h.adj_mem q).2
theorem Pre.elen (h : Pre ns es) : es.length ≤ 64 := by
  have nd := h.easc.nodup
  have sub : es ⊆ ns.flatMap fun a => ns.map fun b => (a, b) := by
    intro p hp
    obtain ⟨h1, h2, _⟩ := h.mem p hp
    exact List.mem_flatMap.mpr ⟨p.1, h1, List.mem_map.mpr ⟨p.2, h2, rfl⟩⟩
  have l := nd.length_le_of_subset sub
  have e : (ns.flatMap fun a => ns.map fun b => (a, b)).length = ns.length * ns.length := by
    rw [List.length_flatMap]
    simp only [List.length_map]
    have go : ∀ (xs : List Str) (c : Nat), (xs.map fun _ => c).sum = xs.length * c := by
      intro xs c
      induction xs with
      | nil => simp
      | cons x xs ih => simp [ih, Nat.add_mul]; omega
    rw [go]
  have := h.len
  have : ns.length * ns.length ≤ 8 * 8 := Nat.mul_le_mul h.len h.len
  omega
theorem Net.isD (h : Net ns es) {a b : Str} (ha : a ∈ ns) (hb : b ∈ ns) : IsD es a b (dist es a b) := by
  obtain ⟨k, w⟩ := h.conn a ha b hb
  obtain ⟨d, hd, _⟩ := r_isD_of w
  rw [dist_eq hd]
  exact hd
theorem Net.dist_comm (h : Net ns es) {a b : Str} (ha : a ∈ ns) (hb : b ∈ ns) : dist es a b = dist es b a := dist_eq (h.isD hb ha).symm
theorem Net.tri (h : Net ns es) {a b c : Str} (ha : a ∈ ns) (hb : b ∈ ns) (hc : c ∈ ns) : dist es a c ≤ dist es a b + dist es b c := (h.isD ha hc).le ((h.isD ha hb).1.app (h.isD hb hc).1)
theorem Net.dist_zero (h : Net ns es) {a b : Str} (ha : a ∈ ns) (hb : b ∈ ns) : dist es a b = 0 ↔ a = b := by
  constructor
  · intro q
    have := h.isD ha hb
    rw [q] at this
    exact this.zero
  · rintro rfl
    exact dist_self es a
theorem Net.dist_adj (h : Net ns es) {a b : Str} (ha : a ∈ ns) (hb : b ∈ ns) : dist es a b = 1 ↔ adj es a b = true := by
  constructor
  · intro q
    have := h.isD ha hb
    rw [q] at this
    obtain ⟨c, h1, h2⟩ := this.pred
    rw [h1.zero]
    exact h2
  · intro q
    have l := (h.isD ha hb).le (.one q)
    have z : dist es a b ≠ 0 := fun z => h.adj_ne q ((h.dist_zero ha hb).mp z)
    omega
/-- each smaller distance is met -/
theorem IsD.all {a b : Str} {d : Nat} (h : IsD es a b d) : ∀ k, k ≤ d → ∃ c, IsD es a c k := by
  induction d generalizing b with
  | zero => intro k hk; exact ⟨b, by rw [Nat.le_zero.mp hk]; exact h⟩
  | succ d ih =>
    intro k hk
    rcases Nat.lt_or_ge k (d + 1) with q | q
    · obtain ⟨c, hc, _⟩ := h.pred
      exact ih hc k (by omega)
    · exact ⟨b, by rw [Nat.le_antisymm hk q]; exact h⟩
theorem Pre.dlt (h : Pre ns es) {a b : Str} (ha : a ∈ ns) {d : Nat} (hd : IsD es a b d) : d < ns.length := by
  have ex : ∀ k : Fin (d + 1), ∃ c, IsD es a c k.val := fun k => hd.all k.val (by omega)
  let f : Fin (d + 1) → Str := fun k => (ex k).choose
  have hf : ∀ k, IsD es a (f k) k.val := fun k => (ex k).choose_spec
  have nd : ((List.finRange (d + 1)).map f).Nodup := by
    rw [List.nodup_iff_pairwise_ne, List.pairwise_map]
    refine (List.nodup_iff_pairwise_ne.mp (List.nodup_finRange (d + 1))).imp fun {i j} hne e => hne ?_
    have := hf i
    rw [e] at this
    exact Fin.ext (this.uniq (hf j))
  have sub : (List.finRange (d + 1)).map f ⊆ ns := by
    intro c hc
    obtain ⟨k, _, rfl⟩ := List.mem_map.mp hc
    exact h.walk_mem (hf k).1 ha
  have := nd.length_le_of_subset sub
  simp only [List.length_map, List.length_finRange] at this
  omega
theorem Net.dist_lt (h : Net ns es) {a b : Str} (ha : a ∈ ns) (hb : b ∈ ns) : dist es a b < ns.length := h.dlt ha (h.isD ha hb)
theorem Net.dist_le (h : Net ns es) {a b : Str} (ha : a ∈ ns) (hb : b ∈ ns) : dist es a b ≤ 7 := by
  have := h.dist_lt ha hb
  have := h.len
  omega
theorem Net.dist_near (h : Net ns es) {a b c : Str} (ha : a ∈ ns) (q : adj es b c = true) : dist es a c ≤ dist es a b + 1 := by
  obtain ⟨hb, hc⟩ := h.adj_mem q
  have := h.tri ha hb hc
  rw [(h.dist_adj hb hc).mpr q] at this
  exact this
theorem Net.dist_pred (h : Net ns es) {a b : Str} (ha : a ∈ ns) (hb : b ∈ ns) {d : Nat} (q : dist es a b = d + 1) : ∃ c ∈ ns, adj es c b = true ∧ dist es a c = d := by
  have := h.isD ha hb
  rw [q] at this
  obtain ⟨c, h1, h2⟩ := this.pred
  exact ⟨c, (h.adj_mem h2).1, h2, dist_eq h1⟩
end

/-! ### neighbours -/
def besideP (es : List (Str × Str)) (a : Str) : List Str := sortE .str ((es.filter fun p => decide (p.2 = a)).map (·.1) ++ (es.filter fun p => decide (p.1 = a)).map (·.2))
theorem map_snoc {α : Type} (enc : α → D) (xs : List α) (x : α) : xs.map enc ++ [enc x] = (xs ++ [x]).map enc := by simp
theorem map_comp {α β : Type} (f : α → β) (g : β → D) (xs : List α) : xs.map (fun x => g (f x)) = (xs.map f).map g := by simp
theorem beside_run {T : Nat → Str → Fn} [h : H_beside T] (n : Nat) (es : List (Str × Str)) (a : Str) (hl : es.length ≤ 1000) : T (n + 1) "beside" [pT es, .str a] = .ok (sL (besideP es a)) true [] := by
  have l1 : es.length ≤ sizeLine := by rw [sizeLine_eq]; omega
  have l2 : (es.filter fun p => decide (p.2 = a)).length ≤ es.length := List.length_filter_le _ _
  have l3 : (es.filter fun p => decide (p.1 = a)).length ≤ es.length := List.length_filter_le _ _
  rw [h.own_beside n, fn_eq _ _ _ _ rfl]
  unfold b_beside
  tm_run
  rw [lc pr es (fun p => decide (p.2 = a)) (fun p => .str p.1)]
  · tm_run
    rw [lc pr es (fun p => decide (p.1 = a)) (fun p => .str p.2)]
    · rw [map_comp (fun p : Str × Str => p.1) .str, map_comp (fun p : Str × Str => p.2) .str]
      tm_run
      rw [← List.map_append]
      tm_run
      rfl
    · tm_run
    · exact ⟨rfl, rfl, rfl⟩
    · intro p hp
      unfold pr
      tm_run
    · exact l1
  · tm_run
  · exact ⟨rfl, rfl, rfl⟩
  · intro p hp
    unfold pr
    tm_run
  · exact l1

theorem map_nodup {α β : Type} {f : α → β} {xs : List α} (h : xs.Nodup) (inj : ∀ a ∈ xs, ∀ b ∈ xs, f a = f b → a = b) : (xs.map f).Nodup := by
  induction xs with
  | nil => simp
  | cons x xs ih =>
    simp only [List.nodup_cons, List.map_cons] at *
    refine ⟨fun hm => ?_, ih h.2 fun a ha b hb => inj a (List.mem_cons_of_mem _ ha) b (List.mem_cons_of_mem _ hb)⟩
    obtain ⟨y, hy, e⟩ := List.mem_map.mp hm
    exact h.1 (inj y (List.mem_cons_of_mem _ hy) x List.mem_cons_self e ▸ hy)
theorem Pre.beside {ns : List Str} {es : Es} (h : Pre ns es) (a : Str) : besideP es a = ns.filter (adj es a) := by
  refine sortE_eq ((List.perm_ext_iff_of_nodup ?_ (h.asc.nodup.filter _)).mpr fun b => ?_) (h.asc.filter _)
  · have nd := h.easc.nodup
    rw [List.nodup_append]
    refine ⟨map_nodup (nd.filter _) ?_, map_nodup (nd.filter _) ?_, ?_⟩
    · intro p hp q hq e
      simp only [List.mem_filter, decide_eq_true_eq] at hp hq
      exact Prod.ext e (hp.2.trans hq.2.symm)
    · intro p hp q hq e
      simp only [List.mem_filter, decide_eq_true_eq] at hp hq
      exact Prod.ext (hp.2.trans hq.2.symm) e
    · intro x hx y hy e
      obtain ⟨p, hp, rfl⟩ := List.mem_map.mp hx
      obtain ⟨q, hq, rfl⟩ := List.mem_map.mp hy
      simp only [List.mem_filter, decide_eq_true_eq] at hp hq
      have h1 := (h.mem p hp.1).2.2
      have h2 := (h.mem q hq.1).2.2
      rw [hp.2, e] at h1
      rw [hq.2] at h2
      have := nlt_asymm h1
      rw [h2] at this
      cases this
  · simp only [List.mem_append, List.mem_map, List.mem_filter, decide_eq_true_eq]
    constructor
    · rintro (⟨⟨x, y⟩, ⟨h1, h2⟩, h3⟩ | ⟨⟨x, y⟩, ⟨h1, h2⟩, h3⟩)
      · simp only at h2 h3
        subst h2 h3
        exact ⟨(h.mem _ h1).1, adj_iff.mpr (.inr h1)⟩
      · simp only at h2 h3
        subst h2 h3
        exact ⟨(h.mem _ h1).2.1, adj_iff.mpr (.inl h1)⟩
    · rintro ⟨_, hb⟩
      rcases adj_iff.mp hb with q | q
      · exact .inr ⟨(a, b), ⟨q, rfl⟩, rfl⟩
      · exact .inl ⟨(b, a), ⟨q, rfl⟩, rfl⟩
/-! ### steps_from -/
def wave1 (ks : List Str) (V : List Str) (o : Str) : List Str := if o ∈ ks ++ V then V else V ++ [o]
def wave (nb : Str → List Str) (ks W : List Str) : List Str := W.foldl (fun V one => (nb one).foldl (wave1 ks) V) []
theorem wave1_fold (ks : List Str) : ∀ (xs V : List Str), (∀ v, v ∈ xs.foldl (wave1 ks) V ↔ v ∈ V ∨ (v ∈ xs ∧ v ∉ ks)) ∧ (V.Nodup → (∀ v ∈ V, v ∉ ks) → (xs.foldl (wave1 ks) V).Nodup ∧ ∀ v ∈ xs.foldl (wave1 ks) V, v ∉ ks)
  | [], V => ⟨fun v => by simp, fun h1 h2 => ⟨h1, h2⟩⟩
  | x :: xs, V => by
    obtain ⟨i1, i2⟩ := wave1_fold ks xs (wave1 ks V x)
    have e : ∀ v, v ∈ wave1 ks V x ↔ v ∈ V ∨ (v = x ∧ v ∉ ks) := by
      intro v
      unfold wave1
      split
      · rename_i h
        constructor
        · exact .inl
        · rintro (h1 | ⟨rfl, h1⟩)
          · exact h1
          · exact (List.mem_append.mp h).resolve_left h1
      · rename_i h
        simp only [List.mem_append, not_or] at h
        simp only [List.mem_append, List.mem_singleton]
        constructor
        · rintro (h1 | rfl)
          · exact .inl h1
          · exact .inr ⟨rfl, h.1⟩
        · rintro (h1 | ⟨rfl, _⟩)
          · exact .inl h1
          · exact .inr rfl
    refine ⟨fun v => ?_, fun h1 h2 => ?_⟩
    · rw [List.foldl_cons, i1, e]
      simp only [List.mem_cons]
      constructor
      · rintro ((h | ⟨rfl, h⟩) | ⟨h, h'⟩)
        · exact .inl h
        · exact .inr ⟨.inl rfl, h⟩
        · exact .inr ⟨.inr h, h'⟩
      · rintro (h | ⟨rfl | h, h'⟩)
        · exact .inl (.inl h)
        · exact .inl (.inr ⟨rfl, h'⟩)
        · exact .inr ⟨h, h'⟩
    · rw [List.foldl_cons]
      refine i2 ?_ fun v hv => ((e v).mp hv).elim (h2 v) (·.2)
      unfold wave1
      split
      · exact h1
      · rename_i h
        simp only [List.mem_append, not_or] at h
        rw [List.nodup_append]
        exact ⟨h1, by simp, fun a ha b hb q => h.2 (by rw [List.mem_singleton] at hb; rw [← hb, ← q]; exact ha)⟩
theorem wave_fold (nb : Str → List Str) (ks : List Str) : ∀ (W V : List Str), (∀ v, v ∈ W.foldl (fun V one => (nb one).foldl (wave1 ks) V) V ↔ v ∈ V ∨ ((∃ w ∈ W, v ∈ nb w) ∧ v ∉ ks)) ∧ (V.Nodup → (∀ v ∈ V, v ∉ ks) → (W.foldl (fun V one => (nb one).foldl (wave1 ks) V) V).Nodup ∧ ∀ v ∈ W.foldl (fun V one => (nb one).foldl (wave1 ks) V) V, v ∉ ks)
  | [], V => ⟨fun v => by simp, fun h1 h2 => ⟨h1, h2⟩⟩
  | w :: W, V => by
    obtain ⟨i1, i2⟩ := wave_fold nb ks W ((nb w).foldl (wave1 ks) V)
    obtain ⟨j1, j2⟩ := wave1_fold ks (nb w) V
    refine ⟨fun v => ?_, fun h1 h2 => ?_⟩
    · rw [List.foldl_cons, i1, j1]
      simp only [List.mem_cons, exists_eq_or_imp]
      constructor
      · rintro ((h | ⟨h, h'⟩) | ⟨h, h'⟩)
        · exact .inl h
        · exact .inr ⟨.inl h, h'⟩
        · exact .inr ⟨.inr h, h'⟩
      · rintro (h | ⟨h | h, h'⟩)
        · exact .inl (.inl h)
        · exact .inl (.inr ⟨h, h'⟩)
        · exact .inr ⟨h, h'⟩
    · rw [List.foldl_cons]
      obtain ⟨k1, k2⟩ := j2 h1 h2
      exact i2 k1 k2
theorem wave_mem (nb : Str → List Str) (ks W : List Str) (v : Str) : v ∈ wave nb ks W ↔ (∃ w ∈ W, v ∈ nb w) ∧ v ∉ ks := by
  have := (wave_fold nb ks W []).1 v
  simpa [wave] using this
theorem wave_nodup (nb : Str → List Str) (ks W : List Str) : (wave nb ks W).Nodup := ((wave_fold nb ks W []).2 (by simp) (by simp)).1
/-- the waves from a node, one after the other -/
def bfsGo (nb : Str → List Str) : Nat → Nat → List (Str × Nat) → List Str → List (Str × Nat)
  | 0, _, S, _ => S
  | f + 1, c, S, W => if W = [] then S else bfsGo nb f (c + 1) (S ++ (wave nb (S.map (·.1)) W).map fun b => (b, c + 1)) (wave nb (S.map (·.1)) W)
def bfs (es : Es) (a : Str) : List (Str × Nat) := bfsGo (besideP es) 10 0 [(a, 0)] [a]
structure BInv (es : Es) (a : Str) (c : Nat) (S : List (Str × Nat)) (W : List Str) : Prop where
  nd : (S.map (·.1)).Nodup
  mem : ∀ b d, (b, d) ∈ S ↔ IsD es a b d ∧ d ≤ c
  last : ∀ b, b ∈ W ↔ IsD es a b c
  wnd : W.Nodup
theorem binv0 (es : Es) (a : Str) : BInv es a 0 [(a, 0)] [a] := by
  refine ⟨by simp, fun b d => ?_, fun b => ?_, by simp⟩
  · simp only [List.mem_singleton, Prod.mk.injEq]
    constructor
    · rintro ⟨rfl, rfl⟩; exact ⟨.self es _, Nat.le_refl _⟩
    · rintro ⟨h, hd⟩
      rw [Nat.le_zero.mp hd] at h ⊢
      exact ⟨h.zero.symm, rfl⟩
  · simp only [List.mem_singleton]
    exact ⟨fun e => e ▸ .self es _, fun h => h.zero.symm⟩
theorem BInv.step {ns : List Str} {es : Es} (h : Pre ns es) {a : Str} {c : Nat} {S : List (Str × Nat)} {W : List Str} (i : BInv es a c S W) :
    BInv es a (c + 1) (S ++ (wave (besideP es) (S.map (·.1)) W).map fun b => (b, c + 1)) (wave (besideP es) (S.map (·.1)) W) := by
  have key : ∀ b, b ∈ S.map (·.1) ↔ ∃ d, IsD es a b d ∧ d ≤ c := by
    intro b
    constructor
    · intro hb
      obtain ⟨⟨x, d⟩, hp, rfl⟩ := List.mem_map.mp hb
      exact ⟨d, (i.mem _ _).mp hp⟩
    · rintro ⟨d, hd⟩
      exact List.mem_map.mpr ⟨(b, d), (i.mem _ _).mpr hd, rfl⟩
  have wm : ∀ b, b ∈ wave (besideP es) (S.map (·.1)) W ↔ IsD es a b (c + 1) := by
    intro b
    rw [wave_mem, key]
    constructor
    · rintro ⟨⟨w, hw, hb⟩, hn⟩
      rw [h.beside, List.mem_filter] at hb
      have ww := ((i.last w).mp hw).1.snoc hb.2
      refine ⟨ww, fun k hk wk => ?_⟩
      obtain ⟨d, hd, hle⟩ := r_isD_of wk
      exact hn ⟨d, hd, by omega⟩
    · intro hd
      obtain ⟨w, hw, q⟩ := hd.pred
      refine ⟨⟨w, (i.last w).mpr hw, ?_⟩, ?_⟩
      · rw [h.beside, List.mem_filter]
        exact ⟨(h.adj_mem q).2, q⟩
      · rintro ⟨d, h1, h2⟩
        have := h1.uniq hd
        omega
  refine ⟨?_, fun b d => ?_, wm, wave_nodup _ _ _⟩
  · rw [List.map_append, List.map_map]
    have : ((fun p : Str × Nat => p.1) ∘ fun b => (b, c + 1)) = fun b : Str => b := rfl
    rw [this, List.map_id', List.nodup_append]
    refine ⟨i.nd, wave_nodup _ _ _, fun x hx y hy e => ?_⟩
    exact ((wave_mem _ _ _ _).mp hy).2 (e ▸ hx)
  · rw [List.mem_append, i.mem, List.mem_map]
    constructor
    · rintro (⟨h1, h2⟩ | ⟨x, h1, h2⟩)
      · exact ⟨h1, by omega⟩
      · cases h2
        exact ⟨(wm _).mp h1, Nat.le_refl _⟩
    · rintro ⟨h1, h2⟩
      rcases Nat.lt_or_ge c d with q | q
      · have : d = c + 1 := by omega
        subst this
        exact .inr ⟨b, (wm b).mpr h1, rfl⟩
      · exact .inl ⟨h1, q⟩
theorem BInv.done {es : Es} {a : Str} {c : Nat} {S : List (Str × Nat)} (i : BInv es a c S []) : ∀ b d, (b, d) ∈ S ↔ IsD es a b d := by
  intro b d
  rw [i.mem]
  refine ⟨fun h => h.1, fun h => ⟨h, ?_⟩⟩
  rcases Nat.lt_or_ge c d with q | q
  · obtain ⟨x, hx⟩ := h.all c (by omega)
    exact absurd ((i.last x).mpr hx) (by simp)
  · exact q
theorem BInv.small {ns : List Str} {es : Es} (h : Pre ns es) {a : Str} (ha : a ∈ ns) {c : Nat} {S : List (Str × Nat)} {W : List Str} (i : BInv es a c S W) : S.length ≤ ns.length := by
  have := i.nd.length_le_of_subset (l₂ := ns) fun b hb => by
    obtain ⟨⟨x, d⟩, hp, rfl⟩ := List.mem_map.mp hb
    exact h.walk_mem ((i.mem _ _).mp hp).1.1 ha
  simpa using this
theorem BInv.wlen {ns : List Str} {es : Es} (h : Pre ns es) {a : Str} (ha : a ∈ ns) {c : Nat} {S : List (Str × Nat)} {W : List Str} (i : BInv es a c S W) : W.length ≤ ns.length :=
  i.wnd.length_le_of_subset fun b hb => h.walk_mem ((i.last b).mp hb).1 ha
theorem BInv.lt {ns : List Str} {es : Es} (h : Pre ns es) {a : Str} (ha : a ∈ ns) {c : Nat} {S : List (Str × Nat)} {W : List Str} (i : BInv es a c S W) (hW : W ≠ []) : c < ns.length := by
  obtain ⟨w, hw⟩ := List.exists_mem_of_ne_nil W hW
  exact h.dlt ha ((i.last w).mp hw)
theorem bfs_spec {ns : List Str} {es : Es} (h : Pre ns es) {a : Str} (ha : a ∈ ns) : ((bfs es a).map (·.1)).Nodup ∧ ∀ b d, (b, d) ∈ bfs es a ↔ IsD es a b d := by
  have go : ∀ (f c : Nat) (S : List (Str × Nat)) (W : List Str), BInv es a c S W → 10 ≤ f + c → ((bfsGo (besideP es) f c S W).map (·.1)).Nodup ∧ ∀ b d, (b, d) ∈ bfsGo (besideP es) f c S W ↔ IsD es a b d := by
    intro f
    induction f with
    | zero =>
      intro c S W i hc
      have : W = [] := Decidable.byContradiction fun q => by
        have := i.lt h ha q
        have := h.len
        omega
      subst this
      exact ⟨i.nd, i.done⟩
    | succ f ih =>
      intro c S W i hc
      unfold bfsGo
      split
      · rename_i e
        subst e
        exact ⟨i.nd, i.done⟩
      · exact ih _ _ _ (i.step h) (by omega)
  exact go 10 0 _ _ (binv0 es a) (by omega)

abbrev net (ns : List Str) (es : Es) : D := .tuple [sT ns, pT es]
theorem wave1_len (ks V : List Str) (o : Str) : (wave1 ks V o).length ≤ V.length + 1 := by
  unfold wave1
  split <;> simp
/-- the inner loop -/
theorem steps_in {T : Nat → Str → Fn} {n : Nat} {ns : List Str} {es : Es} (N : D) (hN : N = net ns es) (a : Str) (S : List (Str × Nat)) (c : Nat) (W : List Str) (xs V : List Str) (one : Str) (v7 : Option (Bool × D)) (hl : S.length + V.length + xs.length ≤ 1000) :
    ∃ v7', forGo (.nm 7) (sIf (tCmp (xPrim pNin [.nm 7, .nm 2])) (sSeq (sPutI 2 (.nm 7) (xVar 4)) <| sExpr (xAppend 5 (xVar 7))) (sNil)) (xs.map .str)
      [some (false, N), some (false, .str a), some (true, .dict ((S ++ V.map fun b => (b, c)).map (kv .str nI))), some (false, sL W), some (false, nI c), some (true, sL V), some (false, .str one), v7]
      = .ok .next [some (false, N), some (false, .str a), some (true, .dict ((S ++ (xs.foldl (wave1 (S.map (·.1))) V).map fun b => (b, c)).map (kv .str nI))), some (false, sL W), some (false, nI c), some (true, sL (xs.foldl (wave1 (S.map (·.1))) V)), some (false, .str one), v7'] := by
  induction xs generalizing V v7 with
  | nil => exact ⟨v7, rfl⟩
  | cons x xs ih =>
    have hl' := hl
    simp only [List.length_cons] at hl'
    have l1 : (S ++ V.map fun b => (b, c)).length < sizeLine := by rw [List.length_append, List.length_map, sizeLine_eq]; omega
    have ks : (S ++ V.map fun b => (b, c)).map (·.1) = S.map (·.1) ++ V := by
      rw [List.map_append, List.map_map]
      congr 1
      exact List.map_id' V
    rw [List.map_cons, forGo_cons]
    by_cases hx : x ∈ S.map (·.1) ++ V
    · have e : wave1 (S.map (·.1)) V x = V := by unfold wave1; rw [if_pos hx]
      obtain ⟨v7', h⟩ := ih V (some (false, .str x)) (by omega)
      refine ⟨v7', ?_⟩
      rw [List.foldl_cons, e, ← h]
      tm_run
      rw [ks]
      simp only [hx, decide_true]
      tm_run
      rfl
    · have e : wave1 (S.map (·.1)) V x = V ++ [x] := by unfold wave1; rw [if_neg hx]
      obtain ⟨v7', h⟩ := ih (V ++ [x]) (some (false, .str x)) (by rw [List.length_append]; simp; omega)
      refine ⟨v7', ?_⟩
      rw [List.foldl_cons, e, ← h]
      have u : upd (S ++ V.map fun b => (b, c)) x c = S ++ (V ++ [x]).map fun b => (b, c) := by
        unfold upd
        rw [ks, if_neg hx]
        simp
      have l2 : (V.map PyData.str).length < sizeLine := by rw [List.length_map, sizeLine_eq]; omega
      tm_run
      rw [ks]
      simp only [hx, decide_false]
      tm_run
      rw [kPut_sd nI c _ _ _ _ l1, u]
      tm_run
      rw [map_snoc PyData.str]
      rfl
theorem steps_out {T : Nat → Str → Fn} [H : H_beside T] {n : Nat} {ns : List Str} {es : Es} (pre : Pre ns es) (a : Str) (S : List (Str × Nat)) (c : Nat) (W0 : List Str) (W V : List Str) (v6 v7 : Option (Bool × D)) (hl : S.length + V.length + 8 * W.length ≤ 900) :
    ∃ v6' v7', forGo (.nm 6) (sFor (.val (xCall (T (n + 1) "beside") [.v (xPrim pIx [.nm 0, .ex (xLit (.int 1))]), .v (xVar 6)])) (.nm 7) (sIf (tCmp (xPrim pNin [.nm 7, .nm 2])) (sSeq (sPutI 2 (.nm 7) (xVar 4)) <| sExpr (xAppend 5 (xVar 7))) (sNil))) (W.map .str)
      [some (false, net ns es), some (false, .str a), some (true, .dict ((S ++ V.map fun b => (b, c)).map (kv .str nI))), some (false, sL W0), some (false, nI c), some (true, sL V), v6, v7]
      = .ok .next [some (false, net ns es), some (false, .str a), some (true, .dict ((S ++ (W.foldl (fun V one => (besideP es one).foldl (wave1 (S.map (·.1))) V) V).map fun b => (b, c)).map (kv .str nI))), some (false, sL W0), some (false, nI c), some (true, sL (W.foldl (fun V one => (besideP es one).foldl (wave1 (S.map (·.1))) V) V)), v6', v7'] := by
  induction W generalizing V v6 v7 with
  | nil => exact ⟨v6, v7, rfl⟩
  | cons w W ih =>
    simp only [List.length_cons] at hl
    have bl : (besideP es w).length ≤ 8 := by
      rw [pre.beside]
      exact Nat.le_trans (List.length_filter_le _ _) pre.len
    have fl : ∀ (xs V : List Str), (xs.foldl (wave1 (S.map (·.1))) V).length ≤ V.length + xs.length := by
      intro xs
      induction xs with
      | nil => intro V; simp
      | cons x xs ih =>
        intro V
        rw [List.foldl_cons, List.length_cons]
        have := ih (wave1 (S.map (·.1)) V x)
        have := wave1_len (S.map (·.1)) V x
        omega
    have el := pre.elen
    obtain ⟨w7, h1⟩ := steps_in (T := T) (n := n) (net ns es) rfl a S c W0 (besideP es w) V w v7 (by omega)
    obtain ⟨v6', v7', h2⟩ := ih ((besideP es w).foldl (wave1 (S.map (·.1))) V) (some (false, .str w)) w7 (by have := fl (besideP es w) V; omega)
    refine ⟨v6', v7', ?_⟩
    rw [List.foldl_cons, ← h2, List.map_cons, forGo_cons]
    tm_run
    rw [beside_run (T := T) n es w (by omega)]
    tm_run
    rw [h1]
    rfl
theorem bfsGo_nil (nb : Str → List Str) (f c : Nat) (S : List (Str × Nat)) : bfsGo nb f c S [] = S := by
  cases f <;> simp [bfsGo]
theorem steps_run {T : Nat → Str → Fn} [H : H_steps_from T] (n : Nat) {ns : List Str} {es : Es} (pre : Pre ns es) {a : Str} (ha : a ∈ ns) :
    T (n + 2) "steps_from" [net ns es, .str a] = .ok (.dict ((bfs es a).map (kv .str nI))) false [] := by
  rw [H.own_steps_from (n + 1), fn_eq _ _ _ _ rfl]
  unfold b_steps_from
  have nl := pre.len
  have w := while_run (t := tVal (.nm 3)) (b :=
      sSeq (sAug 4 (xLit (.int 1))) <|
      sSeq (sAsg 5 (xLst [])) <|
      sSeq (sFor (.val (xVar 3)) (.nm 6) (sFor (.val (xCall (T (n + 1) "beside") [.v (xPrim pIx [.nm 0, .ex (xLit (.int 1))]), .v (xVar 6)])) (.nm 7) (sIf (tCmp (xPrim pNin [.nm 7, .nm 2])) (
              sSeq (sPutI 2 (.nm 7) (xVar 4)) <|
              sExpr (xAppend 5 (xVar 7))) (sNil)))) <|
      sAsg 3 (xVar 5))
    (fun k e => ∃ c S W b v5 v6 v7, k + c = 9 ∧ BInv es a c S W ∧ bfsGo (besideP es) (10 - c) c S W = bfs es a ∧ e = [some (false, net ns es), some (false, .str a), some (true, .dict (S.map (kv .str nI))), some (b, sL W), some (false, nI c), v5, v6, v7])
    (fun e => ∃ c b v5 v6 v7, e = [some (false, net ns es), some (false, .str a), some (true, .dict ((bfs es a).map (kv .str nI))), some (b, sL []), some (false, nI c), v5, v6, v7])
    (k := 9) (e := [some (false, net ns es), some (false, .str a), some (true, .dict ([(a, 0)].map (kv .str nI))), some (true, sL [a]), some (false, nI 0), none, none, none]) (by decide)
    ⟨0, [(a, 0)], [a], true, none, none, none, rfl, binv0 es a, rfl, rfl⟩ ?_
  · obtain ⟨e', h1, c, b, v5, v6, v7, rfl⟩ := w
    have d : xDict [(xVar 1, xLit (.int 0))] [some (false, net ns es), some (false, .str a), none, none, none, none, none, none] = .ok (.dict ([(a, 0)].map (kv .str nI)), true) [some (false, net ns es), some (false, .str a), none, none, none, none, none, none] := by
      rfl
    tm_run
    rw [d]
    tm_run
    erw [h1]
    tm_run
  · rintro k e ⟨c, S, W, b, v5, v6, v7, hk, inv, hg, rfl⟩
    have sl := inv.small pre ha
    refine ⟨!W.isEmpty, [some (false, net ns es), some (false, .str a), some (true, .dict (S.map (kv .str nI))), some (b, sL W), some (false, nI c), v5, v6, v7], ?_, fun hc => ?_, fun hc => ?_⟩
    · tm_run
      simp
    · have : W = [] := by simpa using hc
      subst this
      rw [bfsGo_nil] at hg
      subst hg
      exact ⟨c, b, v5, v6, v7, rfl⟩
    · have hW : W ≠ [] := by simpa using hc
      have clt := inv.lt pre ha hW
      have wl := inv.wlen pre ha
      obtain ⟨v6', v7', h2⟩ := steps_out (T := T) (n := n) pre a S (c + 1) W W [] v6 v7 (by simp; omega)
      refine ⟨[some (false, net ns es), some (false, .str a), some (true, .dict ((S ++ (wave (besideP es) (S.map (·.1)) W).map fun b => (b, c + 1)).map (kv .str nI))), some (false, sL (wave (besideP es) (S.map (·.1)) W)), some (false, nI (c + 1)), some (false, sL (wave (besideP es) (S.map (·.1)) W)), v6', v7'], 8 - c, ?_, by omega, c + 1, _, _, false, _, _, _, by omega, inv.step pre, ?_, rfl⟩
      · have e1 : (PyData.int ((c : Int) + 1)) = nI (c + 1) := by simp [nI]
        unfold nI
        tm_run
        rw [e1]
        have h3 := h2
        simp only [List.map_nil, List.append_nil] at h3
        erw [h3]
        tm_run
        rfl
      · rw [← hg]
        have e : 10 - c = (10 - (c + 1)) + 1 := by omega
        rw [e, bfsGo, if_neg hW]

/-! ### data of any shape, within bounds -/
mutual
def okD : D → Bool
  | .none | .bool _ | .int _ => true
  | .str s => decide (s.length ≤ 1000)
  | .list xs | .tuple xs => decide (xs.length ≤ 1000) && okAll xs
  | .dict _ => false
def okAll : List D → Bool
  | [] => true
  | x :: xs => okD x && okAll xs
end
theorem okAll_iff : ∀ xs : List D, okAll xs = true ↔ ∀ x ∈ xs, okD x = true
  | [] => by simp [okAll]
  | x :: xs => by simp [okAll, okAll_iff xs]
theorem ok_tuple {xs : List D} : okD (.tuple xs) = true ↔ xs.length ≤ 1000 ∧ ∀ x ∈ xs, okD x = true := by
  rw [okD, Bool.and_eq_true, decide_eq_true_eq, okAll_iff]
theorem ok_list {xs : List D} : okD (.list xs) = true ↔ xs.length ≤ 1000 ∧ ∀ x ∈ xs, okD x = true := by
  rw [okD, Bool.and_eq_true, decide_eq_true_eq, okAll_iff]
theorem ok_str {s : Str} : okD (.str s) = true ↔ s.length ≤ 1000 := by rw [okD, decide_eq_true_eq]
mutual
theorem ok_plain : ∀ d : D, okD d = true → d.plain = true
  | .none, _ => plain_none
  | .bool _, _ => plain_bool _
  | .int _, _ => plain_int _
  | .str _, _ => plain_str _
  | .list xs, h => by rw [r_plain_list]; rw [okD, Bool.and_eq_true] at h; exact okAll_plain xs h.2
  | .tuple xs, h => by rw [r_plain_tuple]; rw [okD, Bool.and_eq_true] at h; exact okAll_plain xs h.2
  | .dict _, h => by rw [okD] at h; cases h
theorem okAll_plain : ∀ xs : List D, okAll xs = true → PyData.plainAll xs = true
  | [], _ => plainAll_nil
  | x :: xs, h => by
    rw [okAll, Bool.and_eq_true] at h
    rw [plainAll_cons, ok_plain x h.1, okAll_plain xs h.2]
    rfl
end
/-! ### is_ascending -/
def adjAsc {α : Type} (enc : α → D) (xs : List α) : Bool := (xs.zip (xs.drop 1)).all fun p => dataLt (enc p.1) (enc p.2)
theorem adjAsc_iff {α : Type} (enc : α → D) : ∀ xs : List α, adjAsc enc xs = true ↔ Asc enc xs
  | [] => by simp [adjAsc, Asc]
  | [x] => by simp [adjAsc, Asc]
  | x :: y :: xs => by
    have ih := adjAsc_iff enc (y :: xs)
    have e : adjAsc enc (x :: y :: xs) = (dataLt (enc x) (enc y) && adjAsc enc (y :: xs)) := by
      simp [adjAsc]
    rw [e, Bool.and_eq_true, ih]
    unfold Asc
    rw [List.pairwise_cons (l := y :: xs)]
    constructor
    · rintro ⟨h1, h2⟩
      refine ⟨fun z hz => ?_, h2⟩
      rcases List.mem_cons.mp hz with rfl | hz
      · exact h1
      · exact dl_trans h1 ((List.pairwise_cons.mp h2).1 z hz)
    · rintro ⟨h1, h2⟩
      exact ⟨h1 y List.mem_cons_self, h2⟩
theorem zipD_map {α : Type} (enc : α → D) : ∀ xs ys : List α, zipD (xs.map enc) (ys.map enc) = (xs.zip ys).map fun p => .tuple [enc p.1, enc p.2]
  | [], _ => by simp [zipD]
  | x :: xs, [] => by simp [zipD]
  | x :: xs, y :: ys => by simp [zipD, zipD_map enc xs ys]
theorem ascending_run {T : Nat → Str → Fn} [H : H_is_ascending T] {α : Type} (enc : α → D) (h : ∀ a b, cmpOk (enc a) (enc b) = true) (n : Nat) (xs : List α) (hl : xs.length ≤ 1000) : T (n + 1) "is_ascending" [.tuple (xs.map enc)] = .ok (.bool (adjAsc enc xs)) false [] := by
  have zl : (xs.zip (xs.drop 1)).length ≤ sizeLine := by rw [List.length_zip, sizeLine_eq]; omega
  rw [H.own_is_ascending n, fn_eq _ _ _ _ rfl]
  unfold b_is_ascending
  tm_run
  rw [lcm (fun p : α × α => .tuple [enc p.1, enc p.2]) (xs.zip (xs.drop 1)) (fun p => .bool (dataLt (enc p.1) (enc p.2)))]
  · tm_run
    rfl
  · tm_run
    rw [← List.map_drop, zipD_map]
  · exact ⟨rfl, rfl, rfl⟩
  · intro p hp
    have : pLt [enc p.1, enc p.2] = some (.bool (dataLt (enc p.1) (enc p.2)), false) := by simp [pLt, h]
    tm_run
    rw [this]
    tm_run
  · exact zl
theorem cmpOk_pr (p q : Str × Str) : cmpOk (pr p) (pr q) = true := by
  have := pr_depth p
  simp only [cmpOk, pr_plain, pr_alike, shal, Bool.and_self, Bool.true_and]
  have e : isNone (pr p) = false := rfl
  rw [e]
  exact decide_eq_true (by omega)
/-! ### is_name, are_names, is_pair -/
def isNameB : D → Bool
  | .str s => decide (1 ≤ s.length) && decide (s.length ≤ 3) && lowS s
  | _ => false
theorem one_cp (c x : Nat) : nlt ⟨#[c]⟩ ⟨#[x]⟩ = decide (c < x) := by
  unfold nlt
  rw [dataLt_str]
  exact decide_eq_decide.mpr (by simp [List.cons_lt_cons_iff])
theorem chars_len (s : Str) : (chars s).length = s.length := by
  unfold chars
  rw [List.length_map, Array.length_toList]
  rfl
theorem name_run {T : Nat → Str → Fn} [H : H_is_name T] (n : Nat) (d : D) (ok : okD d = true) : T (n + 1) "is_name" [d] = .ok (.bool (isNameB d)) false [] := by
  have hp := ok_plain d ok
  rw [H.own_is_name n, fn_eq _ _ _ _ rfl]
  unfold b_is_name
  cases d with
  | str s =>
    have sl := ok_str.mp ok
    have l1 : s.length ≤ sizeLine := by rw [sizeLine_eq]; omega
    have ea : ("a" : Str) = ⟨#[97]⟩ := by decide +kernel
    have ez : ("z" : Str) = ⟨#[122]⟩ := by decide +kernel
    tm_run
    have e1 : decide ((1 : Int) ≤ (s.length : Int)) = decide (1 ≤ s.length) := decide_eq_decide.mpr (by omega)
    rw [e1]
    by_cases h1 : 1 ≤ s.length
    · simp only [h1, decide_true]
      tm_run
      have e2 : decide ((s.length : Int) ≤ 3) = decide (s.length ≤ 3) := decide_eq_decide.mpr (by omega)
      rw [e2]
      by_cases h2 : s.length ≤ 3
      · simp only [h2, decide_true]
        tm_run
        rw [lcm (fun c : Nat => .str ⟨#[c]⟩) s.cps.toList (fun c => .bool (decide (97 ≤ c) && decide (c ≤ 122)))]
        · tm_run
          simp [isNameB, h1, h2, lowS]
        · tm_run
          rfl
        · exact ⟨rfl, rfl, rfl⟩
        · intro c hc
          tm_run
          rw [ea, one_cp]
          have e3 : (!decide (c < 97)) = decide (97 ≤ c) := by
            by_cases q : 97 ≤ c
            · simp [q]
            · simp [q]; omega
          rw [e3]
          by_cases q : 97 ≤ c
          · simp only [q, decide_true]
            tm_run
            rw [ez, one_cp]
            have e4 : (!decide (122 < c)) = decide (c ≤ 122) := by
              by_cases q : c ≤ 122
              · simp [q]
              · simp [q]; omega
            rw [e4, Bool.true_and]
          · simp only [q, decide_false]
            tm_run
            rw [Bool.false_and]
        · rw [Array.length_toList]
          exact l1
      · simp only [h2, decide_false]
        tm_run
        simp [isNameB, h2]
    · simp only [h1, decide_false]
      tm_run
      simp [isNameB, h1]
  | dict _ => rw [okD] at ok; cases ok
  | _ =>
    tm_run
    rfl
theorem isNameB_iff {d : D} : isNameB d = true ↔ ∃ s, d = .str s ∧ NameP s := by
  cases d with
  | str s => simp [isNameB, NameP, and_assoc]
  | _ => simp [isNameB]
theorem strs_of {xs : List D} (h : xs.all isNameB = true) : ∃ ns : List Str, xs = ns.map .str ∧ ∀ a ∈ ns, NameP a := by
  induction xs with
  | nil => exact ⟨[], rfl, by simp⟩
  | cons x xs ih =>
    rw [List.all_cons, Bool.and_eq_true] at h
    obtain ⟨s, rfl, hs⟩ := isNameB_iff.mp h.1
    obtain ⟨ns, rfl, hn⟩ := ih h.2
    refine ⟨s :: ns, rfl, fun a ha => ?_⟩
    rcases List.mem_cons.mp ha with rfl | ha
    · exact hs
    · exact hn a ha
def NamesP (ns : List Str) : Prop := Asc .str ns ∧ ns ≠ [] ∧ ns.length ≤ 8 ∧ ∀ a ∈ ns, NameP a
open Classical in
noncomputable def areNamesB (d : D) : Bool := decide (∃ ns, d = sT ns ∧ NamesP ns)
open Classical in
theorem areNamesB_iff {d : D} : areNamesB d = true ↔ ∃ ns, d = sT ns ∧ NamesP ns := by
  unfold areNamesB
  exact decide_eq_true_iff
theorem areNamesB_no {d : D} (h : ¬ ∃ ns, d = sT ns ∧ NamesP ns) : areNamesB d = false := Bool.eq_false_iff.mpr fun q => h (areNamesB_iff.mp q)
theorem sT_inj {xs ys : List Str} (h : sT xs = sT ys) : xs = ys := by
  have := eqv_sT xs ys
  rw [h, eqv_sT] at this
  simpa using this.symm
theorem names_all {ns : List Str} (h : ∀ a ∈ ns, NameP a) : (ns.map PyData.str).all isNameB = true := by
  rw [List.all_eq_true]
  intro x hx
  obtain ⟨a, ha, rfl⟩ := List.mem_map.mp hx
  exact isNameB_iff.mpr ⟨a, rfl, h a ha⟩
theorem names_run {T : Nat → Str → Fn} [H : H_are_names T] (n : Nat) (d : D) (ok : okD d = true) : T (n + 2) "are_names" [d] = .ok (.bool (areNamesB d)) false [] := by
  have hp := ok_plain d ok
  rw [H.own_are_names (n + 1), fn_eq _ _ _ _ rfl]
  unfold b_are_names
  cases d with
  | tuple xs =>
    obtain ⟨hl, hok⟩ := ok_tuple.mp ok
    have l1 : xs.length ≤ sizeLine := by rw [sizeLine_eq]; omega
    tm_run
    have e1 : decide ((1 : Int) ≤ (xs.length : Int)) = decide (1 ≤ xs.length) := decide_eq_decide.mpr (by omega)
    rw [e1]
    by_cases h1 : 1 ≤ xs.length
    · simp only [h1, decide_true]
      tm_run
      have e2 : decide ((xs.length : Int) ≤ 8) = decide (xs.length ≤ 8) := decide_eq_decide.mpr (by omega)
      rw [e2]
      by_cases h2 : xs.length ≤ 8
      · simp only [h2, decide_true]
        tm_run
        rw [lcm (fun x : D => x) xs (fun x => .bool (isNameB x))]
        · tm_run
          cases q : xs.all isNameB with
          | false =>
            tm_run
            have : areNamesB (.tuple xs) = false := by
              apply areNamesB_no
              rintro ⟨ns, e, hn⟩
              cases e
              rw [names_all hn.2.2.2] at q
              cases q
            rw [this]
          | true =>
            obtain ⟨ns, rfl, hn⟩ := strs_of q
            tm_run
            rw [ascending_run (T := T) PyData.str cmpOk_str n ns (by simpa using hl)]
            tm_run
            congr 2
            rw [Bool.eq_iff_iff, adjAsc_iff, areNamesB_iff]
            constructor
            · intro h
              refine ⟨ns, rfl, h, ?_, by simpa using h2, hn⟩
              rintro rfl
              simp at h1
            · rintro ⟨ms, e, hm⟩
              rw [sT_inj e]
              exact hm.1
        · tm_run
          rw [List.map_id']
        · exact ⟨rfl, rfl, rfl⟩
        · intro x hx
          tm_run
          rw [name_run (T := T) n x (hok x hx)]
          tm_run
        · exact l1
      · simp only [h2, decide_false]
        tm_run
        have : areNamesB (.tuple xs) = false := by
          apply areNamesB_no
          rintro ⟨ns, e, hn⟩
          cases e
          exact h2 (by simpa using hn.2.2.1)
        rw [this]
    · simp only [h1, decide_false]
      tm_run
      have : areNamesB (.tuple xs) = false := by
        apply areNamesB_no
        rintro ⟨ns, e, hn⟩
        cases e
        apply h1
        have := List.length_pos_iff.mpr hn.2.1
        simp only [List.length_map]
        omega
      rw [this]
  | dict _ => rw [okD] at ok; cases ok
  | _ =>
    tm_run
    rw [areNamesB_no]
    rintro ⟨ns, e, _⟩
    cases e

def inB (ns : List Str) : D → Bool
  | .str s => decide (s ∈ ns)
  | _ => false
def isPairB (ns : List Str) : D → Bool
  | .tuple [.str a, .str b] => decide (a ∈ ns) && decide (b ∈ ns) && nlt a b
  | _ => false
theorem inB_iff {ns : List Str} {d : D} : inB ns d = true ↔ ∃ s, d = .str s ∧ s ∈ ns := by
  cases d <;> simp [inB]
theorem isPairB_iff {ns : List Str} {d : D} : isPairB ns d = true ↔ ∃ p : Str × Str, d = pr p ∧ p.1 ∈ ns ∧ p.2 ∈ ns ∧ nlt p.1 p.2 = true := by
  constructor
  · intro h
    unfold isPairB at h
    split at h
    · rename_i a b
      simp only [Bool.and_eq_true, decide_eq_true_eq] at h
      exact ⟨(a, b), rfl, h.1.1, h.1.2, h.2⟩
    · cases h
  · rintro ⟨p, rfl, h1, h2, h3⟩
    simp [pr, isPairB, h1, h2, h3]
theorem pair_run {T : Nat → Str → Fn} [H : H_is_pair T] (n : Nat) (ns : List Str) (d : D) (ok : okD d = true) : T (n + 1) "is_pair" [sT ns, d] = .ok (.bool (isPairB ns d)) false [] := by
  have hp := ok_plain d ok
  rw [H.own_is_pair n, fn_eq _ _ _ _ rfl]
  unfold b_is_pair
  cases d with
  | tuple xs =>
    obtain ⟨hl, hok⟩ := ok_tuple.mp ok
    tm_run
    have e1 : (!decide ((xs.length : Int) = 2)) = !decide (xs.length = 2) := by congr 1; exact decide_eq_decide.mpr (by omega)
    rw [e1]
    by_cases h2 : xs.length = 2
    · obtain ⟨x, y, rfl⟩ : ∃ x y, xs = [x, y] := by
        match xs, h2 with
        | [x, y], _ => exact ⟨x, y, rfl⟩
      simp only [h2, decide_true]
      tm_run
      rw [lcm (fun x : D => x) [x, y] (fun x => .bool (inB ns x))]
      · tm_run
        cases q : (inB ns x && inB ns y) with
        | false =>
          tm_run
          have : isPairB ns (.tuple [x, y]) = false := by
            rw [Bool.eq_false_iff]
            intro h
            obtain ⟨p, e, h1, h2, _⟩ := isPairB_iff.mp h
            simp only [pr, PyData.tuple.injEq, List.cons.injEq, and_true] at e
            rw [e.1, e.2] at q
            simp [inB, h1, h2] at q
          rw [this]
        | true =>
          rw [Bool.and_eq_true] at q
          obtain ⟨a, rfl, ha⟩ := inB_iff.mp q.1
          obtain ⟨b, rfl, hb⟩ := inB_iff.mp q.2
          tm_run
          simp [isPairB, ha, hb]
      · tm_run
      · exact ⟨rfl, rfl, rfl⟩
      · intro z hz
        have hz' := ok_plain z (hok z hz)
        have zo := hok z hz
        cases z with
        | str s => tm_run; rfl
        | dict _ => rw [okD] at zo; cases zo
        | _ => tm_run; rfl
      · rw [sizeLine_eq]; simp
    · simp only [h2, decide_false]
      tm_run
      have : isPairB ns (.tuple xs) = false := by
        rw [Bool.eq_false_iff]
        intro h
        obtain ⟨p, e, _⟩ := isPairB_iff.mp h
        cases e
        exact h2 rfl
      rw [this]
  | dict _ => rw [okD] at ok; cases ok
  | _ => tm_run; rfl
theorem prs_of {ns : List Str} {xs : List D} (h : xs.all (isPairB ns) = true) : ∃ es : Es, xs = es.map pr ∧ ∀ p ∈ es, p.1 ∈ ns ∧ p.2 ∈ ns ∧ nlt p.1 p.2 = true := by
  induction xs with
  | nil => exact ⟨[], rfl, by simp⟩
  | cons x xs ih =>
    rw [List.all_cons, Bool.and_eq_true] at h
    obtain ⟨s, rfl, hs⟩ := isPairB_iff.mp h.1
    obtain ⟨ns, rfl, hn⟩ := ih h.2
    refine ⟨s :: ns, rfl, fun a ha => ?_⟩
    rcases List.mem_cons.mp ha with rfl | ha
    · exact hs
    · exact hn a ha
theorem prs_all {ns : List Str} {es : Es} (h : ∀ p ∈ es, p.1 ∈ ns ∧ p.2 ∈ ns ∧ nlt p.1 p.2 = true) : (es.map pr).all (isPairB ns) = true := by
  rw [List.all_eq_true]
  intro x hx
  obtain ⟨a, ha, rfl⟩ := List.mem_map.mp hx
  exact isPairB_iff.mpr ⟨a, rfl, h a ha⟩
/-! ### connected -/
theorem bfs_len {ns : List Str} {es : Es} (h : Pre ns es) {a : Str} (ha : a ∈ ns) : (bfs es a).length = ns.length ↔ ∀ b ∈ ns, ∃ k, Walk es k a b := by
  obtain ⟨nd, hm⟩ := bfs_spec h ha
  have sub : (bfs es a).map (·.1) ⊆ ns := fun b hb => by
    obtain ⟨⟨x, d⟩, hp, rfl⟩ := List.mem_map.mp hb
    exact h.walk_mem ((hm _ _).mp hp).1 ha
  constructor
  · intro e b hb
    have hb' : b ∈ (bfs es a).map (·.1) := Decidable.byContradiction fun hn => by
      have : (b :: (bfs es a).map (·.1)).length ≤ ns.length := List.Nodup.length_le_of_subset (List.nodup_cons.mpr ⟨hn, nd⟩) (List.cons_subset.mpr ⟨hb, sub⟩)
      rw [List.length_cons, List.length_map] at this
      omega
    obtain ⟨⟨x, d⟩, hp, rfl⟩ := List.mem_map.mp hb'
    exact ⟨d, ((hm _ _).mp hp).1⟩
  · intro c
    refine Nat.le_antisymm (by simpa using nd.length_le_of_subset sub) ?_
    have := h.asc.nodup.length_le_of_subset (l₂ := (bfs es a).map (·.1)) fun b hb => by
      obtain ⟨k, w⟩ := c b hb
      obtain ⟨d, hd, _⟩ := r_isD_of w
      exact List.mem_map.mpr ⟨(b, d), (hm _ _).mpr hd, rfl⟩
    simpa using this
theorem conn_all {ns : List Str} {es : Es} {a : Str} (c : ∀ b ∈ ns, ∃ k, Walk es k a b) : ∀ x ∈ ns, ∀ b ∈ ns, ∃ k, Walk es k x b := fun x hx b hb => by
  obtain ⟨k, w⟩ := c x hx
  obtain ⟨l, v⟩ := c b hb
  exact ⟨k + l, w.symm.app v⟩
open Classical in
noncomputable def connB (ns : List Str) (es : Es) : Bool := decide (∀ a ∈ ns, ∀ b ∈ ns, ∃ k, Walk es k a b)
open Classical in
theorem connB_iff {ns : List Str} {es : Es} : connB ns es = true ↔ ∀ a ∈ ns, ∀ b ∈ ns, ∃ k, Walk es k a b := by
  unfold connB
  exact decide_eq_true_iff
theorem connected_run {T : Nat → Str → Fn} [H : H_is_connected T] (n : Nat) {ns : List Str} {es : Es} (h : Pre ns es) : T (n + 3) "is_connected" [net ns es] = .ok (.bool (connB ns es)) false [] := by
  rw [H.own_is_connected (n + 2), fn_eq _ _ _ _ rfl]
  unfold b_is_connected
  obtain ⟨a, ms, rfl⟩ : ∃ a ms, ns = a :: ms := by
    cases ns with
    | nil => exact absurd rfl h.ne
    | cons a ms => exact ⟨a, ms, rfl⟩
  tm_run
  erw [steps_run (T := T) n h (a := a) List.mem_cons_self]
  tm_run
  congr 2
  rw [Bool.eq_iff_iff, connB_iff, decide_eq_true_eq]
  simp only [List.length_map]
  have b := bfs_len h (a := a) List.mem_cons_self
  rw [List.length_cons] at b
  constructor
  · intro e
    exact conn_all (b.mp (by omega))
  · intro c
    have := b.mpr fun x hx => c a List.mem_cons_self x hx
    omega
/-! ### is_network -/
open Classical in
noncomputable def isNetB (d : D) : Bool := decide (∃ ns es, d = net ns es ∧ Net ns es)
open Classical in
theorem isNetB_iff {d : D} : isNetB d = true ↔ ∃ ns es, d = net ns es ∧ Net ns es := by
  unfold isNetB
  exact decide_eq_true_iff
theorem isNetB_no {d : D} (h : ¬ ∃ ns es, d = net ns es ∧ Net ns es) : isNetB d = false := Bool.eq_false_iff.mpr fun q => h (isNetB_iff.mp q)
theorem isNetB_net {ns : List Str} {es : Es} (h : Net ns es) : isNetB (net ns es) = true := isNetB_iff.mpr ⟨ns, es, rfl, h⟩
theorem pT_inj {xs ys : Es} (h : pT xs = pT ys) : xs = ys := by
  have e : ∀ zs : Es, PyData.eqv (pT xs) (pT zs) = decide (xs = zs) := fun zs => by rw [eqv_tuple]; exact eqvAll_map _ eqv_pr xs zs
  have := e ys
  rw [← h, e] at this
  simpa using this.symm
theorem network_run {T : Nat → Str → Fn} [H : H_is_network T] (n : Nat) (d : D) (ok : okD d = true) : T (n + 4) "is_network" [d] = .ok (.bool (isNetB d)) false [] := by
  have hp := ok_plain d ok
  rw [H.own_is_network (n + 3), fn_eq _ _ _ _ rfl]
  unfold b_is_network
  cases d with
  | tuple xs =>
    obtain ⟨hl, hok⟩ := ok_tuple.mp ok
    tm_run
    have e1 : (!decide ((xs.length : Int) = 2)) = !decide (xs.length = 2) := by congr 1; exact decide_eq_decide.mpr (by omega)
    rw [e1]
    by_cases h2 : xs.length = 2
    · obtain ⟨x, y, rfl⟩ : ∃ x y, xs = [x, y] := by
        match xs, h2 with
        | [x, y], _ => exact ⟨x, y, rfl⟩
      have ox := hok x (by simp)
      have oy := hok y (by simp)
      have py := ok_plain y oy
      simp only [h2, decide_true]
      tm_run
      rw [names_run (T := T) (n + 1) x ox]
      tm_run
      cases q : areNamesB x with
      | false =>
        tm_run
        rw [isNetB_no]
        rintro ⟨ns, es, e, h⟩
        simp only [PyData.tuple.injEq, List.cons.injEq, and_true] at e
        have := areNamesB_iff.mpr ⟨ns, e.1, h.asc, h.ne, h.len, h.name⟩
        rw [q] at this
        cases this
      | true =>
        obtain ⟨ns, rfl, hn⟩ := areNamesB_iff.mp q
        tm_run
        cases y with
        | tuple ys =>
          obtain ⟨yl, yok⟩ := ok_tuple.mp oy
          have l1 : ys.length ≤ sizeLine := by rw [sizeLine_eq]; omega
          tm_run
          rw [lcm (fun x : D => x) ys (fun x => .bool (isPairB ns x))]
          · tm_run
            cases q2 : ys.all (isPairB ns) with
            | false =>
              tm_run
              rw [isNetB_no]
              rintro ⟨ms, es, e, h⟩
              simp only [PyData.tuple.injEq, List.cons.injEq, and_true] at e
              have e1 : ns = ms := sT_inj (by rw [sT, sT, e.1])
              subst e1
              rw [e.2, prs_all h.mem] at q2
              cases q2
            | true =>
              obtain ⟨es, rfl, hm⟩ := prs_of q2
              rw [List.length_map] at yl
              tm_run
              rw [ascending_run (T := T) pr cmpOk_pr (n + 2) es yl]
              tm_run
              have back : ∀ ms fs, net ns es = net ms fs → ns = ms ∧ es = fs := by
                intro ms fs e
                simp only [PyData.tuple.injEq, List.cons.injEq, and_true] at e
                exact ⟨sT_inj (by rw [sT, sT, e.1]), pT_inj (by rw [pT, pT, e.2])⟩
              cases q3 : adjAsc pr es with
              | false =>
                tm_run
                rw [isNetB_no]
                rintro ⟨ms, fs, e, h⟩
                obtain ⟨rfl, rfl⟩ := back _ _ e
                rw [(adjAsc_iff pr es).mpr h.easc] at q3
                cases q3
              | true =>
                have pre : Pre ns es := ⟨hn.1, hn.2.1, hn.2.2.1, hn.2.2.2, (adjAsc_iff pr es).mp q3, hm⟩
                tm_run
                rw [connected_run (T := T) n pre]
                tm_run
                congr 2
                rw [Bool.eq_iff_iff, connB_iff, isNetB_iff]
                constructor
                · intro c
                  exact ⟨ns, es, rfl, ⟨pre, c⟩⟩
                · rintro ⟨ms, fs, e, h⟩
                  obtain ⟨rfl, rfl⟩ := back _ _ e
                  exact h.conn
          · tm_run
            rw [List.map_id']
          · exact ⟨rfl, rfl, rfl⟩
          · intro z hz
            tm_run
            rw [pair_run (T := T) (n + 2) ns z (yok z hz)]
            tm_run
          · exact l1
        | dict _ => rw [okD] at oy; cases oy
        | _ =>
          tm_run
          rw [isNetB_no]
          rintro ⟨ns, es, e, h⟩
          simp only [PyData.tuple.injEq, List.cons.injEq, and_true] at e
          cases e.2
    · simp only [h2, decide_false]
      tm_run
      rw [isNetB_no]
      rintro ⟨ns, es, e, h⟩
      cases e
      exact h2 rfl
  | dict _ => rw [okD] at ok; cases ok
  | _ =>
    tm_run
    rw [isNetB_no]
    rintro ⟨ns, es, e, h⟩
    cases e

/-! ### draws -/
abbrev Ints (ns : List Int) : D := .list (ns.map .int)
theorem intsOf_map : ∀ ns : List Int, intsOf (ns.map PyData.int) = some ns
  | [] => rfl
  | n :: ns => by simp [intsOf, intsOf_map ns]
theorem mod_range (x : Int) {m : Int} (h : 1 ≤ m) : 0 ≤ x.fmod m ∧ x.fmod m < m := ⟨Int.fmod_nonneg_of_pos _ (by omega), Int.fmod_lt_of_pos _ (by omega)⟩
theorem pDiv_int (i j : Int) (h : j ≠ 0) (h2 : j.natAbs < 1073741824) : pDiv [.int i, .int j] = some (.int (i.fdiv j), false) := by simp [pDiv, h, h2]
theorem pMul_int (i j : Int) (h : (small64 i || small64 j) = true) : pMul [.int i, .int j] = some (.int (i * j), false) := by simp only [pMul, h, if_true]
theorem pIx_int (xs : List D) (i : Int) (d : D) (h0 : 0 ≤ i) (h : xs[i.toNat]? = some d) : pIx [.list xs, .int i] = some (d, false) := by
  obtain ⟨k, rfl⟩ := Int.eq_ofNat_of_zero_le h0
  exact pIx_ln xs k d (by simpa using h)
theorem pIx_intT (xs : List D) (i : Int) (d : D) (h0 : 0 ≤ i) (h : xs[i.toNat]? = some d) : pIx [.tuple xs, .int i] = some (d, false) := by
  obtain ⟨k, rfl⟩ := Int.eq_ofNat_of_zero_le h0
  exact pIx_tn xs k d (by simpa using h)
theorem draw_tail {T : Nat → Str → Fn} (n : Nat) (S : D) (a : Int) (r : List Int) (many : Int) (hm : 1 ≤ many) (cell : Int) (k : Nat) :
    ∃ res st', 0 ≤ res ∧ res < many ∧ st'.length = r.length + 1 ∧ kFn [1] ((
  sSeq (sAsg 5 (xPrim pMod [.ex (xPrim pIx [.nm 1, .ex (xLit (.int 0))]), .ex (xLit (.int 65536))])) <|
  sSeq (sPutI 1 (.ex (xLit (.int 0))) (xPrim pDiv [.ex (xPrim pIx [.nm 1, .ex (xLit (.int 0))]), .ex (xLit (.int 65536))])) <|
  sSeq (sAsg 6 (xPrim pMod [.ex (xPrim pAdd [.ex (xPrim pAdd [.nm 4, .ex (xPrim pMul [.ex (xLit (.int 40503)), .nm 5])]), .ex (xPrim pMul [.ex (xLit (.int 104729)), .nm 3])]), .ex (xLit (.int 4294967291))])) <|
  sSeq (sAsg 6 (xPrim pMod [.ex (xPrim pMul [.ex (xPrim pMod [.ex (xPrim pMul [.nm 6, .nm 6]), .ex (xLit (.int 4294967279))]), .ex (xLit (.int 48271))]), .ex (xLit (.int 4294967291))])) <|
  sSeq (sAsg 7 (xPrim pMod [.ex (xPrim pMul [.ex (xPrim pMod [.ex (xPrim pMul [.nm 6, .nm 6]), .ex (xLit (.int 4294967279))]), .ex (xLit (.int 69621))]), .ex (xLit (.int 4294967291))])) <|
  sRet (xPrim pMod [.ex (xPrim pAdd [.ex (xPrim pMul [.ex (xPrim pDiv [.nm 6, .ex (xLit (.int 64))]), .ex (xLit (.int 67108864))]), .ex (xPrim pDiv [.nm 7, .ex (xLit (.int 64))])]), .nm 2]))
      [some (false, S), some (true, .list (.int a :: r.map .int)), some (false, .int many), some (false, .int (k : Int)), some (false, .int cell), none, none, none]) = .ok (.int res) false [Ints st'] := by
  have sm : ∀ x : Int, 0 ≤ x ∧ x < 4294967291 → small64 x = true := fun x h => by simp [small64]; omega
  have md : ∀ (i : Int) (j : Int) (_ : j ≠ 0), pMod [.int i, .int j] = some (.int (i.fmod j), false) := fun i j h => pMod_int i j h
  have m1 : ∀ i : Int, pMul [.int 40503, .int i] = some (.int (40503 * i), false) := fun i => pMul_int _ _ rfl
  have m2 : ∀ i : Int, pMul [.int 104729, .int i] = some (.int (104729 * i), false) := fun i => pMul_int _ _ rfl
  have m3 : ∀ i : Int, pMul [.int i, .int 48271] = some (.int (i * 48271), false) := fun i => pMul_int _ _ (by rw [show small64 48271 = true from rfl, Bool.or_true])
  have m4 : ∀ i : Int, pMul [.int i, .int 69621] = some (.int (i * 69621), false) := fun i => pMul_int _ _ (by rw [show small64 69621 = true from rfl, Bool.or_true])
  have m5 : ∀ i : Int, pMul [.int i, .int 67108864] = some (.int (i * 67108864), false) := fun i => pMul_int _ _ (by rw [show small64 67108864 = true from rfl, Bool.or_true])
  have q1 : ∀ i : Int, pMod [.int i, .int 65536] = some (.int (i.fmod 65536), false) := fun i => md _ _ (by decide)
  have q2 : ∀ i : Int, pMod [.int i, .int 4294967291] = some (.int (i.fmod 4294967291), false) := fun i => md _ _ (by decide)
  have q3 : ∀ i : Int, pMod [.int i, .int 4294967279] = some (.int (i.fmod 4294967279), false) := fun i => md _ _ (by decide)
  have q4 : ∀ i : Int, pMod [.int i, .int many] = some (.int (i.fmod many), false) := fun i => md _ _ (by omega)
  have d1 : ∀ i : Int, pDiv [.int i, .int 65536] = some (.int (i.fdiv 65536), false) := fun i => pDiv_int _ _ (by decide) (by decide)
  have d2 : ∀ i : Int, pDiv [.int i, .int 64] = some (.int (i.fdiv 64), false) := fun i => pDiv_int _ _ (by decide) (by decide)
  have j0 : L2.ixN (PyData.int a :: r.map PyData.int).length 0 = some 0 := by
    unfold L2.ixN
    rw [if_pos (by decide), if_pos (by rw [List.length_cons]; omega)]
    rfl
  generalize hx : (cell + 40503 * a.fmod 65536 + 104729 * (k : Int)).fmod 4294967291 = x
  generalize hy : ((x * x).fmod 4294967279 * 48271).fmod 4294967291 = y
  generalize hz : ((y * y).fmod 4294967279 * 69621).fmod 4294967291 = z
  have sx : small64 x = true := sm x (hx ▸ mod_range _ (by decide))
  have sy : small64 y = true := sm y (hy ▸ mod_range _ (by decide))
  have m6 : pMul [.int x, .int x] = some (.int (x * x), false) := pMul_int _ _ (by rw [sx]; rfl)
  have m7 : pMul [.int y, .int y] = some (.int (y * y), false) := pMul_int _ _ (by rw [sy]; rfl)
  obtain ⟨r1, r2⟩ := mod_range (y.fdiv 64 * 67108864 + z.fdiv 64) hm
  refine ⟨(y.fdiv 64 * 67108864 + z.fdiv 64).fmod many, a.fdiv 65536 :: r, r1, r2, rfl, ?_⟩
  clear md sm r1 r2
  walk2
  rfl
/-- a draw below many; the state grows by at most two -/
theorem draw_run {T : Nat → Str → Fn} [H : H__law_draw T] (n : Nat) (sc st : List Int) (many : Int) (hm : 1 ≤ many) (hs : sc.length ≤ 1000) (hl : st.length + 2 ≤ 10000000) :
    ∃ (r : Int) (st' : List Int), 0 ≤ r ∧ r < many ∧ st'.length ≤ st.length + 2 ∧ T (n + 1) "_law_draw" [Ints sc, Ints st, .int many] = .ok (.int r) false [Ints st'] := by
  -- the state is not empty behind the first row
  have first : ∃ (a : Int) (st1 : List Int), st1.length ≤ st.length ∧ sIf (tNot (tVal (.nm 1))) (sExpr (xAppend 1 (xPrim pMax1 [.ex (xPrim pAdd [.ex (xLc [4] (.val (xVar 0)) (.nm 4) [] (xPrim pAbs [.nm 4])), .ex (xLst [(xLit (.int 0))])])]))) (sNil)
      [some (false, Ints sc), some (true, Ints st), some (false, .int many), none, none, none, none, none] = .ok .next [some (false, Ints sc), some (true, .list (.int a :: st1.map .int)), some (false, .int many), none, none, none, none, none] := by
    cases st with
    | nil =>
      have hmax : ∃ k : Int, pMax1 [.list ((sc.map fun i => PyData.int (if i < 0 then -i else i)) ++ [.int 0])] = some (.int k, false) := by
        rw [map_comp (fun i : Int => if i < 0 then -i else i) PyData.int, map_snoc PyData.int]
        simp only [pMax1, intsOf_map]
        cases sc with
        | nil => exact ⟨_, rfl⟩
        | cons x xs => exact ⟨_, rfl⟩
      obtain ⟨k, hk⟩ := hmax
      refine ⟨k, [], by simp, ?_⟩
      tm_run
      rw [lcm PyData.int sc (fun i => .int (if i < 0 then -i else i))]
      · tm_run
        rw [hk]
        tm_run
      · tm_run
      · exact ⟨rfl, rfl, rfl⟩
      · intro i _
        tm_run
      · rw [sizeLine_eq]; omega
    | cons a st1 =>
      refine ⟨a, st1, by simp, ?_⟩
      tm_run
      rfl
  obtain ⟨a, st1, hlen, h1⟩ := first
  have l1 : (PyData.int a :: st1.map PyData.int).length < sizeLine := by rw [List.length_cons, List.length_map, sizeLine_eq]; omega
  have cellx : ∃ cell : Int, xIf (tVal (.nm 0)) (xPrim pIx [.nm 0, .ex (xPrim pMod [.nm 3, .ex (xPrim pLen [.nm 0])])]) (xLit (.int 0)) [some (false, Ints sc), some (true, .list (.int a :: (st1 ++ [0]).map .int)), some (false, .int many), some (false, .int ((st1.length + 2 : Nat) : Int)), none, none, none, none]
      = .ok (.int cell, false) [some (false, Ints sc), some (true, .list (.int a :: (st1 ++ [0]).map .int)), some (false, .int many), some (false, .int ((st1.length + 2 : Nat) : Int)), none, none, none, none] := by
    cases sc with
    | nil => exact ⟨0, by tm_run⟩
    | cons x xs =>
      obtain ⟨m1, m2⟩ := mod_range ((st1.length + 2 : Nat) : Int) (m := (((x :: xs).map PyData.int).length : Nat)) (by simp only [List.length_map, List.length_cons]; omega)
      have hix : ∃ c : Int, (x :: xs)[(((st1.length + 2 : Nat) : Int).fmod (((x :: xs).map PyData.int).length : Nat)).toNat]? = some c := ⟨_, List.getElem?_eq_getElem (by simp only [List.length_map] at *; omega)⟩
      obtain ⟨c, hc⟩ := hix
      refine ⟨c, ?_⟩
      have p1 := pMod_int ((st1.length + 2 : Nat) : Int) (((x :: xs).map PyData.int).length : Nat) (by simp only [List.length_map, List.length_cons]; omega)
      have p2 := pIx_int ((x :: xs).map PyData.int) _ (.int c) m1 (by rw [List.getElem?_map, hc]; rfl)
      have h0 : tVal (.nm 0) [some (false, Ints (x :: xs)), some (true, .list (.int a :: (st1 ++ [0]).map .int)), some (false, .int many), some (false, .int ((st1.length + 2 : Nat) : Int)), none, none, none, none] = .ok true [some (false, Ints (x :: xs)), some (true, .list (.int a :: (st1 ++ [0]).map .int)), some (false, .int many), some (false, .int ((st1.length + 2 : Nat) : Int)), none, none, none, none] := by
        tm_run
      rw [xIf_eq, h0, bok, kXif_t]
      simp only [xPrim_eq, r_pks_cons, nm_ev, List.getElem?_cons_zero, slotOk_some, bok, kPks_eq, ex_ev', List.getElem?_cons_succ, r_pks_nil, kPks2_eq, kPrim_eq, tgets_cons, tgets_nil, tget_l, tget_r, slotV_some, cons2_eq, kPrim2_eq, pLen_list, kOpt_eq, kEx_eq, p1, p2]
  obtain ⟨cell, hc⟩ := cellx
  obtain ⟨res, st', r1, r2, r3, r4⟩ := draw_tail (T := T) n (Ints sc) a (st1 ++ [0]) many hm cell (st1.length + 2)
  refine ⟨res, st', r1, r2, by rw [r3, List.length_append]; simp; omega, ?_⟩
  rw [H.own__law_draw n, fn_eq _ _ _ _ rfl]
  have e0 : startE 8 [false, true, false] [Ints sc, Ints st, .int many] = [some (false, Ints sc), some (true, Ints st), some (false, .int many), none, none, none, none, none] := rfl
  rw [e0, ← r4]
  unfold b__law_draw
  rw [sSeq_eq, h1]
  simp only [bok, kSeq_n]
  have h2 : sExpr (xAppend 1 (xLit (.int 0))) [some (false, Ints sc), some (true, .list (.int a :: st1.map PyData.int)), some (false, .int many), none, none, none, none, none] = .ok .next [some (false, Ints sc), some (true, .list (.int a :: (st1 ++ [0]).map PyData.int)), some (false, .int many), none, none, none, none, none] := by
    tm_run
    rw [map_snoc PyData.int]
  have h3 : sAsg 3 (xPrim pLen [.nm 1]) [some (false, Ints sc), some (true, .list (.int a :: (st1 ++ [0]).map PyData.int)), some (false, .int many), none, none, none, none, none] = .ok .next [some (false, Ints sc), some (true, .list (.int a :: (st1 ++ [0]).map PyData.int)), some (false, .int many), some (false, .int ((st1.length + 2 : Nat) : Int)), none, none, none, none] := by
    tm_run
    simp only [List.length_map, List.length_append, List.length_cons, List.length_nil]
  rw [sSeq_eq, h2, bok, kSeq_n, sSeq_eq, h3, bok, kSeq_n]
  rw [sSeq_eq, sAsg_eq, hc]
  rfl

/-- a state of at most m numbers -/
def StN (m : Nat) (d : D) : Prop := ∃ st : List Int, d = Ints st ∧ st.length ≤ m
theorem StN.mono {m k : Nat} {d : D} (h : StN m d) (hk : m ≤ k) : StN k d := by
  obtain ⟨st, e, l⟩ := h
  exact ⟨st, e, by omega⟩
theorem st0 : StN 0 (.list []) := ⟨[], rfl, by simp⟩
theorem draw {T : Nat → Str → Fn} [H : H__law_draw T] (n : Nat) {sc : List Int} (hs : sc.length ≤ 1000) {m : Nat} {d : D} (hd : StN m d) (many : Int) (hm : 1 ≤ many) (hl : m + 2 ≤ 10000000) :
    ∃ (r : Nat) (d' : D), (r : Int) < many ∧ StN (m + 2) d' ∧ T (n + 1) "_law_draw" [Ints sc, d, .int many] = .ok (.int r) false [d'] := by
  obtain ⟨st, rfl, h⟩ := hd
  obtain ⟨r, st', r1, r2, r3, r4⟩ := draw_run (T := T) n sc st many hm hs (by omega)
  obtain ⟨k, rfl⟩ := Int.eq_ofNat_of_zero_le r1
  exact ⟨k, Ints st', r2, ⟨st', rfl, by omega⟩, r4⟩
theorem pick {T : Nat → Str → Fn} [H : H__law_pick T] (n : Nat) {sc : List Int} (hs : sc.length ≤ 1000) {m : Nat} {d : D} (hd : StN m d) (xs : List D) (s : D) (hx : s = .list xs ∨ s = .tuple xs) (h1 : xs ≠ []) (hl : m + 2 ≤ 10000000) :
    ∃ x d', x ∈ xs ∧ StN (m + 2) d' ∧ T (n + 2) "_law_pick" [Ints sc, d, s] = .ok x false [d'] := by
  have hlen : 1 ≤ xs.length := List.length_pos_iff.mpr h1
  obtain ⟨r, d', r2, r3, r4⟩ := draw (T := T) n hs hd xs.length (by omega) hl
  obtain ⟨y, hy⟩ : ∃ y, xs[r]? = some y := ⟨_, List.getElem?_eq_getElem (by omega)⟩
  refine ⟨y, d', List.mem_of_getElem? hy, r3, ?_⟩
  have hlenp : pLen [s] = some (.int xs.length, false) := by rcases hx with rfl | rfl <;> rfl
  have hix : pIx [s, .int r] = some (y, false) := by
    rcases hx with rfl | rfl
    · exact pIx_ln xs r y hy
    · exact pIx_tn xs r y hy
  rw [H.own__law_pick (n + 1), fn_eq _ _ _ _ rfl]
  unfold b__law_pick
  clear hy hx
  walk2
theorem erase_perm {α : Type} : ∀ (xs : List α) (j : Nat) (y : α), xs[j]? = some y → (y :: xs.eraseIdx j).Perm xs
  | [], _, _, h => by simp at h
  | x :: xs, 0, y, h => by
    simp only [List.getElem?_cons_zero, Option.some.injEq] at h
    subst h
    exact .refl _
  | x :: xs, j + 1, y, h => by
    have := erase_perm xs j y (by simpa using h)
    exact (List.Perm.swap x y _).trans (this.cons x)
theorem erase_map {α β : Type} (f : α → β) : ∀ (xs : List α) (k : Nat), (xs.map f).eraseIdx k = (xs.eraseIdx k).map f
  | [], k => by simp
  | x :: xs, 0 => rfl
  | x :: xs, k + 1 => by simp [List.eraseIdx, erase_map f xs k]
theorem ixN_nat {n k : Nat} (h1 : k < n) : L2.ixN n (k : Int) = some k := by
  unfold L2.ixN
  rw [if_pos (by omega), if_pos (by omega)]
  rfl
theorem shuffled {T : Nat → Str → Fn} [H : H__law_shuffled T] {α : Type} (enc : α → D) (n : Nat) {sc : List Int} (hs : sc.length ≤ 1000) {m : Nat} {d : D} (hd : StN m d) (xs : List α) (s : D) (hx : s = .list (xs.map enc) ∨ s = .tuple (xs.map enc)) (hz : xs.length ≤ 1000) (hl : m + 2 * xs.length ≤ 10000000) :
    ∃ (ys : List α) (d' : D), ys.Perm xs ∧ StN (m + 2 * xs.length) d' ∧ T (n + 2) "_law_shuffled" [Ints sc, d, s] = .ok (.list (ys.map enc)) false [d'] := by
  have hlist : pList [s] = some (.list (xs.map enc), true) := by rcases hx with rfl | rfl <;> rfl
  have w := while_run (t := tVal (.nm 3)) (b := sExpr (xAppend 4 (xPop 3 (.ex (xCall (T (n + 1) "_law_draw") [.v (xVar 0), .io 1, .v (xPrim pLen [.nm 3])])))))
    (fun k e => ∃ (d : D) (rest found : List α), e = [some (false, Ints sc), some (true, d), some (false, s), some (true, .list (rest.map enc)), some (true, .list (found.map enc))] ∧ StN (m + 2 * found.length) d ∧ rest.length = k ∧ (found ++ rest).Perm xs)
    (fun e => ∃ (d : D) (ys : List α), e = [some (false, Ints sc), some (true, d), some (false, s), some (true, .list []), some (true, .list (ys.map enc))] ∧ StN (m + 2 * ys.length) d ∧ ys.Perm xs)
    (k := xs.length) (e := [some (false, Ints sc), some (true, d), some (false, s), some (true, .list (xs.map enc)), some (true, .list [])]) (by omega) ⟨d, xs, [], rfl, hd, rfl, .refl _⟩ ?_
  · obtain ⟨e', h1, d', ys, rfl, h2, h3⟩ := w
    refine ⟨ys, d', h3, by rw [← h3.length_eq]; exact h2, ?_⟩
    rw [H.own__law_shuffled (n + 1), fn_eq _ _ _ _ rfl]
    unfold b__law_shuffled
    clear h2 h3 hl hz
    tm_run
    rw [hlist]
    tm_run
    rw [h1]
    tm_run
  · rintro k e ⟨d, rest, found, rfl, hd, hk, hp⟩
    refine ⟨!rest.isEmpty, [some (false, Ints sc), some (true, d), some (false, s), some (true, .list (rest.map enc)), some (true, .list (found.map enc))], ?_, fun hc => ?_, fun hc => ?_⟩
    · tm_run
      simp
    · have : rest = [] := by simpa using hc
      subst this
      rw [List.append_nil] at hp
      exact ⟨d, found, rfl, hd, hp⟩
    · have hne : rest ≠ [] := by simpa using hc
      have hlen : 1 ≤ rest.length := List.length_pos_iff.mpr hne
      have hsum : found.length + rest.length = xs.length := by rw [← List.length_append]; exact hp.length_eq
      obtain ⟨r, d', r2, r3, r4⟩ := draw (T := T) n hs hd rest.length (by omega) (by omega)
      obtain ⟨y, hy⟩ : ∃ y, rest[r]? = some y := ⟨_, List.getElem?_eq_getElem (by omega)⟩
      have hy' : (rest.map enc)[r]? = some (enc y) := by rw [List.getElem?_map, hy]; rfl
      refine ⟨[some (false, Ints sc), some (true, d'), some (false, s), some (true, .list ((rest.eraseIdx r).map enc)), some (true, .list ((found ++ [y]).map enc))], rest.length - 1, ?_, by omega, d', rest.eraseIdx r, found ++ [y], rfl, ?_, ?_, ?_⟩
      · tm_run
        rw [List.length_map, r4]
        tm_run
        rw [pop_at (by simp [small63]; omega) (by rw [List.length_map]; exact ixN_nat (by omega)) hy']
        tm_run
        rw [erase_map, map_snoc enc]
      · rw [List.length_append]
        have e : m + 2 * (found.length + [y].length) = m + 2 * found.length + 2 := by simp; omega
        rw [e]
        exact r3
      · rw [List.length_eraseIdx]
        rw [if_pos (by omega)]
      · rw [List.append_assoc]
        exact ((erase_perm rest _ y hy).append_left found).trans hp

def eight : List Str := ["a", "b", "c", "d", "x", "y", "ab", "z"]
theorem eight_nodup : eight.Nodup := by decide +kernel
theorem eight_name : ∀ a ∈ eight, NameP a := by
  have : ∀ a ∈ eight, decide (1 ≤ a.length) && decide (a.length ≤ 3) && lowS a = true := by decide +kernel
  intro a ha
  have := this a ha
  simp only [Bool.and_eq_true, decide_eq_true_eq] at this
  exact ⟨this.1.1, this.1.2, this.2⟩
/-- edges between names -/
def EdgesIn (ns : List Str) (E : Es) : Prop := ∀ p ∈ E, p.1 ∈ ns ∧ p.2 ∈ ns ∧ nlt p.1 p.2 = true
theorem EdgesIn.snoc {ns : List Str} {E : Es} (h : EdgesIn ns E) {x y : Str} (hx : x ∈ ns) (hy : y ∈ ns) (hne : x ≠ y) : EdgesIn ns (E ++ [ord2 x y]) := by
  intro p hp
  rcases List.mem_append.mp hp with hp | hp
  · exact h p hp
  · rw [List.mem_singleton] at hp
    subst hp
    exact ⟨(ord2_mem hx hy).1, (ord2_mem hx hy).2, ord2_lt hne⟩
theorem adj_snoc (E : Es) (x y : Str) : adj (E ++ [ord2 x y]) x y = true := by
  rw [adj_iff]
  unfold ord2
  split <;> simp
theorem adj_more {E F : Es} (h : ∀ p ∈ E, p ∈ F) {a b : Str} (q : adj E a b = true) : adj F a b = true := by
  rw [adj_iff] at *
  exact q.imp (h _) (h _)
/-- all of the first k are tied to the first -/
def Tied (E : Es) (ord : List Str) (k : Nat) : Prop := ∀ i a b, i < k → ord[i]? = some a → ord[0]? = some b → ∃ l, Walk E l b a
theorem Tied.snoc {E : Es} {ord : List Str} {k j : Nat} {x y : Str} (h : Tied E ord k) (hx : ord[k]? = some x) (hy : ord[j]? = some y) (hj : j < k) : Tied (E ++ [ord2 x y]) ord (k + 1) := by
  intro i a b hi ha hb
  have mono : ∀ {l : Nat} {a b : Str}, Walk E l a b → Walk (E ++ [ord2 x y]) l a b := fun w => w.mono fun _ _ q => adj_more (fun p hp => List.mem_append_left _ hp) q
  rcases Nat.lt_or_ge i k with q | q
  · obtain ⟨l, w⟩ := h i a b q ha hb
    exact ⟨l, mono w⟩
  · have : i = k := by omega
    subst this
    rw [hx] at ha
    cases ha
    obtain ⟨l, w⟩ := h j y b hj hy hb
    exact ⟨l + 1, (mono w).snoc (by rw [adj_comm]; exact adj_snoc E x y)⟩
theorem net_of {ns : List Str} {E : Es} {ord : List Str} (hn : NamesP ns) (hp : ord.Perm ns) (he : EdgesIn ns E) (ht : Tied E ord ord.length) : Net ns (sortE pr (ddp E)) := by
  have hm : ∀ p, p ∈ sortE pr (ddp E) ↔ p ∈ E := fun p => by rw [sortE_mem, ddp_mem]
  refine ⟨⟨hn.1, hn.2.1, hn.2.2.1, hn.2.2.2, sortE_asc pr_tot (ddp_nodup E), fun p hp => he p ((hm p).mp hp)⟩, ?_⟩
  obtain ⟨b, ord', rfl⟩ : ∃ b ord', ord = b :: ord' := by
    cases ord with
    | nil => exact absurd (hp.symm.eq_nil) hn.2.1
    | cons b ord' => exact ⟨b, ord', rfl⟩
  refine conn_all (a := b) fun a ha => ?_
  have ha' := hp.mem_iff.mpr ha
  obtain ⟨i, hi, e⟩ := List.mem_iff_getElem.mp ha'
  obtain ⟨l, w⟩ := ht i a b hi (by rw [List.getElem?_eq_getElem hi, e]) rfl
  exact ⟨l, w.mono fun _ _ q => adj_more (fun p hp => (hm p).mpr hp) q⟩
theorem network {T : Nat → Str → Fn} [H : H__law_network T] (n : Nat) {sc : List Int} (hs : sc.length ≤ 1000) {m : Nat} {d : D} (hd : StN m d) (most : Nat) (h1 : 1 ≤ most) (h8 : most ≤ 8) (hl : m + 1000 ≤ 10000000) :
    ∃ (ns : List Str) (es : Es) (d' : D), Net ns es ∧ ns.length ≤ most ∧ (∀ a ∈ ns, a ∈ eight) ∧ StN (m + 1000) d' ∧ T (n + 3) "_law_network" [Ints sc, d, .int most] = .ok (net ns es) false [d'] := by
  rw [H.own__law_network (n + 2), fn_eq _ _ _ _ rfl]
  unfold b__law_network
  obtain ⟨som, d1, p1, s1, r1⟩ := shuffled (T := T) PyData.str n hs hd eight _ (.inl rfl) (by decide) (by simp [eight]; omega)
  have l8 : som.length = 8 := p1.length_eq
  obtain ⟨r, d2, rlt, s2, r2⟩ := draw (T := T) (n + 1) hs s1 most (by omega) (by simp [eight]; omega)
  have ec : (1 + (r : Int)) = ((1 + r : Nat) : Int) := by omega
  generalize hns : sortE .str (som.take (1 + r)) = ns
  have nd : (som.take (1 + r)).Nodup := (List.take_sublist _ _).nodup (p1.nodup_iff.mpr eight_nodup)
  have perm : ns.Perm (som.take (1 + r)) := hns ▸ sortE_perm _ _
  have in8 : ∀ a ∈ ns, a ∈ eight := fun a ha => p1.mem_iff.mp (List.mem_of_mem_take (perm.mem_iff.mp ha))
  have nlen : ns.length = 1 + r := by rw [perm.length_eq, List.length_take]; omega
  have hn : NamesP ns := ⟨hns ▸ sortE_asc str_tot nd, fun e => by rw [e] at nlen; simp at nlen; omega, by omega, fun a ha => eight_name a (in8 a ha)⟩
  have nsnd : ns.Nodup := hn.1.nodup
  obtain ⟨ord, d3, p3, s3, r3⟩ := shuffled (T := T) PyData.str n hs s2 ns _ (.inl rfl) (by omega) (by simp [eight]; omega)
  have olen : ord.length = ns.length := p3.length_eq
  have ond : ord.Nodup := p3.nodup_iff.mpr nsnd
  have e8 : eight.length = 8 := rfl
  rw [e8] at s1 s2 s3
  -- the tree's edges
  have loop1 := for_range (tg := .nm 5) (b := sExpr (xAppend 8 (xPrim pTuple [.ex (xPrim pSorted [.ex (xLst [(xPrim pIx [.nm 4, .nm 5]), (xPrim pIx [.nm 4, .ex (xCall (T (n + 2) "_law_draw") [.v (xVar 0), .io 1, .v (xVar 5)])])])])])))
    (fun k => nI (k + 1)) (ord.length - 1)
    (fun i e => ∃ (d : D) (E : Es) (v5 : Option (Bool × D)), StN (m + 40 + 2 * i) d ∧ EdgesIn ns E ∧ Tied E ord (i + 1) ∧ E.length = i ∧ e = [some (false, Ints sc), some (true, d), some (false, .int most), some (false, sL som), some (false, sL ord), v5, none, some (false, sL ns), some (true, pL E), none])
    [some (false, Ints sc), some (true, d3), some (false, .int most), some (false, sL som), some (false, sL ord), none, none, some (false, sL ns), some (true, pL []), none]
    ⟨d3, [], none, s3.mono (by omega), (fun p hp => nomatch hp), (fun i a b hi ha hb => by
      have : i = 0 := by omega
      subst this
      rw [ha] at hb
      cases hb
      exact ⟨0, .nil a⟩), rfl, rfl⟩ ?_
  · obtain ⟨e1, q1, d4, E, v5, s4, hE, tE, lE, rfl⟩ := loop1
    have tE' : Tied E ord ord.length := by
      rw [show ord.length - 1 + 1 = ord.length by omega] at tE
      exact tE
    obtain ⟨pk, d5, hpk, s5, r5⟩ := pick (T := T) n hs s4 ([0, 0, 1, 2, 4, 8].map nI) _ (.inl rfl) (by simp) (by omega)
    obtain ⟨c, hc, rfl⟩ := List.mem_map.mp hpk
    have c8 : c ≤ 8 := by
      simp only [List.mem_cons, List.not_mem_nil, or_false] at hc
      omega
    have loop2 := for_range (tg := .nm 6) (b :=
      sSeq (sAsg 9 (xCut (.ex (xCall (T (n + 2) "_law_shuffled") [.v (xVar 0), .io 1, .v (xVar 7)])) none (some (.ex (xLit (.int 2)))))) <|
      sAsg 8 (xPrim pAdd [.nm 8, .ex (xPrim pMul [.ex (xLst [(xPrim pTuple [.ex (xPrim pSorted [.nm 9])])]), .ex (xPrim pInt [.ex (xPrim pEq [.ex (xPrim pLen [.nm 9]), .ex (xLit (.int 2))])])])]))
      nI c
      (fun i e => ∃ (d : D) (E : Es) (v6 v9 : Option (Bool × D)), StN (m + 100 + 16 * i) d ∧ EdgesIn ns E ∧ Tied E ord ord.length ∧ E.length ≤ 7 + i ∧ e = [some (false, Ints sc), some (true, d), some (false, .int most), some (false, sL som), some (false, sL ord), v5, v6, some (false, sL ns), some (true, pL E), v9])
      [some (false, Ints sc), some (true, d5), some (false, .int most), some (false, sL som), some (false, sL ord), v5, none, some (false, sL ns), some (true, pL E), none]
      ⟨d5, E, none, none, s5.mono (by omega), hE, tE', by omega, rfl⟩ ?_
    · obtain ⟨e2, q2, d6, F, v6, v9, s6, hF, tF, lF, rfl⟩ := loop2
      refine ⟨ns, sortE pr (ddp F), d6, net_of hn p3 hF tF, by omega, in8, s6.mono (by omega), ?_⟩
      have ss := pSortedSet_pL F (by omega)
      simp only [eight, List.map_cons, List.map_nil] at r1
      simp only [List.map_cons, List.map_nil] at r5
      simp only [nI_eq] at r5
      have tk : sortE PyData.str (som.take (1 + r)) = ns := hns
      tm_run
      rw [r1]
      tm_run
      rw [r2]
      tm_run
      rw [ec]
      tm_run
      rw [← List.map_take]
      tm_run
      rw [tk]
      tm_run
      rw [r3]
      tm_run
      rw [kR2b_eq _ _ _ (by decide) (by rw [List.length_map]; exact small62_nat (by omega)), List.length_map, rngD_one]
      tm_run
      erw [q1]
      tm_run
      erw [r5]
      tm_run
      rw [kR1b_eq _ _ (small62_nat (by omega)), rngD_nat]
      tm_run
      erw [q2]
      tm_run
      rw [ss]
      tm_run
    · rintro i e hi ⟨d, E, v6, v9, s6, hE, tE, lE, rfl⟩
      obtain ⟨ys, d', py, sy, ry⟩ := shuffled (T := T) PyData.str n hs s6 ns _ (.inl rfl) (by omega) (by omega)
      have ynd : ys.Nodup := py.nodup_iff.mpr nsnd
      have le1 : (E.map pr).length + 1 ≤ sizeLine := by rw [List.length_map, sizeLine_eq]; omega
      match ys, py, ynd with
      | [], py, _ => exact absurd (py.symm.eq_nil) hn.2.1
      | [x], py, _ =>
        refine ⟨[some (false, Ints sc), some (true, d'), some (false, .int most), some (false, sL som), some (false, sL ord), v5, some (false, nI i), some (false, sL ns), some (true, pL E), some (true, .list [.str x])], ?_, d', E, _, _, sy.mono (by omega), hE, tE, by omega, rfl⟩
        tm_run
        rw [ry]
        tm_run
      | x :: y :: ys, py, ynd =>
        have hne : x ≠ y := by
          rw [List.nodup_cons] at ynd
          exact fun e => ynd.1 (e ▸ List.mem_cons_self)
        have hx : x ∈ ns := py.mem_iff.mp List.mem_cons_self
        have hy : y ∈ ns := py.mem_iff.mp (List.mem_cons_of_mem _ List.mem_cons_self)
        refine ⟨[some (false, Ints sc), some (true, d'), some (false, .int most), some (false, sL som), some (false, sL ord), v5, some (false, nI i), some (false, sL ns), some (true, pL (E ++ [ord2 x y])), some (true, .list [.str x, .str y])], ?_, d', E ++ [ord2 x y], _, _, sy.mono (by omega), hE.snoc hx hy hne, ?_, by rw [List.length_append]; simp; omega, rfl⟩
        · have p2 := pSorted_two hne
          tm_run
          rw [ry]
          tm_run
          rw [p2]
          tm_run
          rw [pL, ← map_snoc pr]
          rfl
        · intro i a b hi ha hb
          obtain ⟨l, w⟩ := tE i a b hi ha hb
          exact ⟨l, w.mono fun _ _ q => adj_more (fun p hp => List.mem_append_left _ hp) q⟩
  · rintro i e hi ⟨d, E, v5, s4, hE, tE, lE, rfl⟩
    obtain ⟨j, d', jlt, s5, r5⟩ := draw (T := T) (n + 1) hs s4 ((i + 1 : Nat) : Int) (by omega) (by omega)
    have jl : j < i + 1 := by omega
    obtain ⟨x, hx⟩ : ∃ x, ord[i + 1]? = some x := ⟨_, List.getElem?_eq_getElem (by omega)⟩
    obtain ⟨y, hy⟩ : ∃ y, ord[j]? = some y := ⟨_, List.getElem?_eq_getElem (by omega)⟩
    have hne : x ≠ y := by
      rintro rfl
      have := (List.getElem?_inj (i := i + 1) (j := j) (by omega) ond).mp (hx.trans hy.symm)
      omega
    have mx : x ∈ ns := p3.mem_iff.mp (List.mem_of_getElem? hx)
    have my : y ∈ ns := p3.mem_iff.mp (List.mem_of_getElem? hy)
    refine ⟨[some (false, Ints sc), some (true, d'), some (false, .int most), some (false, sL som), some (false, sL ord), some (false, nI (i + 1)), none, some (false, sL ns), some (true, pL (E ++ [ord2 x y])), none], ?_, d', E ++ [ord2 x y], _, s5.mono (by omega), hE.snoc mx my hne, tE.snoc hx hy jl, by rw [List.length_append]; simp; omega, rfl⟩
    have p2 := pSorted_two hne
    have ix1 : pIx [sL ord, nI (i + 1)] = some (.str x, false) := pIx_ln _ (i + 1) _ (by rw [List.getElem?_map, hx]; rfl)
    have ix2 : pIx [sL ord, .int j] = some (.str y, false) := pIx_ln _ j _ (by rw [List.getElem?_map, hy]; rfl)
    have le1 : (E.map pr).length < sizeLine := by rw [List.length_map, sizeLine_eq]; omega
    tm_run
    rw [ix1]
    tm_run
    erw [r5]
    tm_run
    rw [ix2]
    tm_run
    rw [p2]
    tm_run
    rw [pL, ← map_snoc pr]
    rfl

theorem tree {T : Nat → Str → Fn} [H : H__law_tree T] (n : Nat) {sc : List Int} (hs : sc.length ≤ 1000) {m : Nat} {d : D} (hd : StN m d) (most : Nat) (h1 : 1 ≤ most) (h8 : most ≤ 8) (hl : m + 2000 ≤ 10000000) :
    ∃ (ns : List Str) (es : Es) (d' : D), Net ns es ∧ es.length + 1 = ns.length ∧ ns.length ≤ most ∧ (∀ a ∈ ns, a ∈ eight) ∧ StN (m + 2000) d' ∧ T (n + 4) "_law_tree" [Ints sc, d, .int most] = .ok (net ns es) false [d'] := by
  rw [H.own__law_tree (n + 3), fn_eq _ _ _ _ rfl]
  unfold b__law_tree
  obtain ⟨ns, es0, d1, net0, nl, in8, s1, r1⟩ := network (T := T) n hs hd most h1 h8 (by omega)
  have nsnd := net0.asc.nodup
  have l8 := net0.len
  obtain ⟨ord, d2, p2, s2, r2⟩ := shuffled (T := T) PyData.str (n + 1) hs s1 ns _ (.inr rfl) (by omega) (by omega)
  have olen : ord.length = ns.length := p2.length_eq
  have ond : ord.Nodup := p2.nodup_iff.mpr nsnd
  have onz : 1 ≤ ord.length := by rw [olen]; exact List.length_pos_iff.mpr net0.ne
  obtain ⟨pk, d3, hpk, s3, r3⟩ := pick (T := T) (n + 1) hs s2 ([1, 2, 9].map nI) _ (.inl rfl) (by simp) (by omega)
  obtain ⟨far, hfar, rfl⟩ := List.mem_map.mp hpk
  have f1 : 1 ≤ far := by
    simp only [List.mem_cons, List.not_mem_nil, or_false] at hfar
    omega
  have loop1 := for_range (tg := .nm 5) (b := sExpr (xAppend 7 (xPrim pTuple [.ex (xPrim pSorted [.ex (xLst [(xPrim pIx [.nm 6, .nm 5]), (xPrim pIx [.nm 6, .ex (xPrim pSub [.ex (xPrim pSub [.nm 5, .ex (xLit (.int 1))]), .ex (xCall (T (n + 3) "_law_draw") [.v (xVar 0), .io 1, .v (xPrim pMin2 [.nm 4, .nm 5])])])])])])])))
    (fun k => nI (k + 1)) (ord.length - 1)
    (fun i e => ∃ (d : D) (E : Es) (v5 : Option (Bool × D)), StN (m + 1100 + 2 * i) d ∧ EdgesIn ns E ∧ Tied E ord (i + 1) ∧ E.length = i ∧ E.Nodup ∧ (∀ p ∈ E, p.1 ∈ ord.take (i + 1) ∧ p.2 ∈ ord.take (i + 1)) ∧ e = [some (false, Ints sc), some (true, d), some (false, .int most), some (false, net ns es0), some (false, .int (far : Int)), v5, some (false, sL ord), some (true, pL E)])
    [some (false, Ints sc), some (true, d3), some (false, .int most), some (false, net ns es0), some (false, .int (far : Int)), none, some (false, sL ord), some (true, pL [])]
    ⟨d3, [], none, s3.mono (by omega), (fun p hp => nomatch hp), (fun i a b hi ha hb => by
      have : i = 0 := by omega
      subst this
      rw [ha] at hb
      cases hb
      exact ⟨0, .nil a⟩), rfl, .nil, (fun p hp => nomatch hp), rfl⟩ ?_
  · obtain ⟨e1, q1, d4, E, v5, s4, hE, tE, lE, ndE, _, rfl⟩ := loop1
    have tE' : Tied E ord ord.length := by
      rw [show ord.length - 1 + 1 = ord.length by omega] at tE
      exact tE
    have nw := net_of ⟨net0.asc, net0.ne, net0.len, net0.name⟩ p2 hE tE'
    rw [ddp_self ndE] at nw
    refine ⟨ns, sortE pr E, d4, nw, by rw [sortE_len]; omega, nl, in8, s4.mono (by omega), ?_⟩
    simp only [List.map_cons, List.map_nil, nI_eq] at r3
    tm_run
    erw [r1]
    tm_run
    rw [r2]
    tm_run
    erw [r3]
    tm_run
    rw [kR2b_eq _ _ _ (by decide) (by rw [List.length_map]; exact small62_nat (by omega)), List.length_map, rngD_one]
    tm_run
    erw [q1]
    tm_run
  · rintro i e hi ⟨d, E, v5, s4, hE, tE, lE, ndE, tk, rfl⟩
    have mpos : (1 : Int) ≤ (if ((i + 1 : Nat) : Int) < (far : Int) then ((i + 1 : Nat) : Int) else (far : Int)) := by
      split <;> omega
    obtain ⟨r, d', rlt, s5, r5⟩ := draw (T := T) (n + 2) hs s4 (if ((i + 1 : Nat) : Int) < (far : Int) then ((i + 1 : Nat) : Int) else (far : Int)) mpos (by omega)
    have rl : r < i + 1 := by
      split at rlt <;> omega
    obtain ⟨x, hx⟩ : ∃ x, ord[i + 1]? = some x := ⟨_, List.getElem?_eq_getElem (by omega)⟩
    obtain ⟨y, hy⟩ : ∃ y, ord[i - r]? = some y := ⟨_, List.getElem?_eq_getElem (by omega)⟩
    have hne : x ≠ y := by
      rintro rfl
      have := (List.getElem?_inj (i := i + 1) (j := i - r) (by omega) ond).mp (hx.trans hy.symm)
      omega
    have mx : x ∈ ns := p2.mem_iff.mp (List.mem_of_getElem? hx)
    have my : y ∈ ns := p2.mem_iff.mp (List.mem_of_getElem? hy)
    have xn : x ∉ ord.take (i + 1) := by
      intro h
      obtain ⟨j, hj, e⟩ := List.mem_iff_getElem.mp h
      rw [List.length_take] at hj
      rw [List.getElem_take] at e
      have hj2 : ord[j]? = some x := by rw [List.getElem?_eq_getElem (by omega), e]
      have := (List.getElem?_inj (i := i + 1) (j := j) (by omega) ond).mp (hx.trans hj2.symm)
      omega
    have tkm : ∀ z, z ∈ ord.take (i + 1) → z ∈ ord.take (i + 2) := fun z hz => (List.take_subset_take_left ord (by omega)) hz
    have xt : x ∈ ord.take (i + 2) := List.mem_of_getElem? (i := i + 1) (by rw [List.getElem?_take_of_lt (by omega)]; exact hx)
    have yt : y ∈ ord.take (i + 2) := List.mem_of_getElem? (i := i - r) (by rw [List.getElem?_take_of_lt (by omega)]; exact hy)
    refine ⟨[some (false, Ints sc), some (true, d'), some (false, .int most), some (false, net ns es0), some (false, .int (far : Int)), some (false, nI (i + 1)), some (false, sL ord), some (true, pL (E ++ [ord2 x y]))], ?_, d', E ++ [ord2 x y], _, s5.mono (by omega), hE.snoc mx my hne, tE.snoc hx hy (by omega), by rw [List.length_append]; simp; omega, ?_, ?_, rfl⟩
    · have p2 := pSorted_two hne
      have ix1 : pIx [sL ord, nI (i + 1)] = some (.str x, false) := pIx_ln _ (i + 1) _ (by rw [List.getElem?_map, hx]; rfl)
      have ix2 : pIx [sL ord, .int ((i - r : Nat) : Int)] = some (.str y, false) := pIx_ln _ (i - r) _ (by rw [List.getElem?_map, hy]; rfl)
      have le1 : (E.map pr).length < sizeLine := by rw [List.length_map, sizeLine_eq]; omega
      have ea : ((i + 1 : Nat) : Int) - 1 - (r : Int) = ((i - r : Nat) : Int) := by omega
      tm_run
      rw [ix1]
      tm_run
      simp only [nI_eq]
      tm_run
      rw [r5]
      tm_run
      rw [ea, ix2]
      tm_run
      rw [p2]
      tm_run
      rw [pL, ← map_snoc pr]
      rfl
    · rw [List.nodup_append]
      refine ⟨ndE, by simp, fun a ha b hb e => ?_⟩
      rw [List.mem_singleton] at hb
      subst e hb
      obtain ⟨h1, h2⟩ := tk _ ha
      unfold ord2 at h1 h2
      split at h1
      · exact xn h1
      · simp_all
    · intro p hp
      rcases List.mem_append.mp hp with hp | hp
      · exact ⟨tkm _ (tk p hp).1, tkm _ (tk p hp).2⟩
      · rw [List.mem_singleton] at hp
        subst hp
        exact ord2_mem xt yt

theorem ok_sT {ns : List Str} (h : ∀ a ∈ ns, NameP a) (hl : ns.length ≤ 1000) : okD (sT ns) = true := by
  rw [ok_tuple]
  refine ⟨by simpa using hl, fun x hx => ?_⟩
  obtain ⟨a, ha, rfl⟩ := List.mem_map.mp hx
  rw [ok_str]
  have := (h a ha).2.1
  omega
theorem Pre.okN {ns : List Str} {es : Es} (h : Pre ns es) : okD (sT ns) = true := ok_sT h.name (by have := h.len; omega)
theorem Pre.ok {ns : List Str} {es : Es} (h : Pre ns es) : okD (net ns es) = true := by
  rw [ok_tuple]
  refine ⟨by simp, fun x hx => ?_⟩
  rcases List.mem_cons.mp hx with rfl | hx
  · exact h.okN
  · rw [List.mem_singleton] at hx
    subst hx
    rw [ok_tuple]
    refine ⟨by rw [List.length_map]; have := h.elen; omega, fun x hx => ?_⟩
    obtain ⟨p, hp, rfl⟩ := List.mem_map.mp hx
    obtain ⟨h1, h2, _⟩ := h.mem p hp
    have n1 := (h.name _ h1).2.1
    have n2 := (h.name _ h2).2.1
    rw [pr, ok_tuple]
    refine ⟨by simp, fun x hx => ?_⟩
    simp only [List.mem_cons, List.not_mem_nil, or_false] at hx
    rcases hx with rfl | rfl
    · rw [ok_str]; omega
    · rw [ok_str]; omega
theorem req_ok {T : Nat → Str → Fn} [H : H_require_network T] (n : Nat) {ns : List Str} {es : Es} (h : Net ns es) : T (n + 5) "require_network" [net ns es] = .ok .none false [] := by
  rw [H.own_require_network (n + 4), fn_eq _ _ _ _ rfl]
  unfold b_require_network
  tm_run
  rw [network_run (T := T) n (net ns es) h.ok, isNetB_net h]
  tm_run
theorem req_bad {T : Nat → Str → Fn} [H : H_require_network T] (n : Nat) {d : D} (ok : okD d = true) (h : isNetB d = false) : T (n + 5) "require_network" [d] = .exc "InvalidNetwork" := by
  rw [H.own_require_network (n + 4), fn_eq _ _ _ _ rfl]
  unfold b_require_network
  tm_run
  rw [network_run (T := T) n d ok, h]
  tm_run
theorem noNet_sT (ns : List Str) : isNetB (sT ns) = false := isNetB_no (by
  rintro ⟨ms, es, e, _⟩
  have e' : ns.map PyData.str = [sT ms, pT es] := by simpa using e
  cases ns with
  | nil => simp at e'
  | cons a ns => simp at e')
theorem isNetB_false {d : D} (h : ∀ x y, d ≠ .tuple [.tuple x, .tuple y]) : isNetB d = false := isNetB_no (by
  rintro ⟨ms, es, e, _⟩
  exact h _ _ e)
def isNodeB (ns : List Str) : D → Bool
  | .str s => decide (s ∈ ns)
  | _ => false
theorem node_ok {T : Nat → Str → Fn} [H : H_require_node T] (n : Nat) {ns : List Str} {X : D} {a : Str} (ha : a ∈ ns) : T (n + 1) "require_node" [.tuple [sT ns, X], .str a] = .ok .none false [] := by
  rw [H.own_require_node n, fn_eq _ _ _ _ rfl]
  unfold b_require_node
  tm_run
  simp only [ha, decide_true]
  tm_run
theorem node_bad {T : Nat → Str → Fn} [H : H_require_node T] (n : Nat) {ns : List Str} {X d : D} (ok : okD d = true) (h : isNodeB ns d = false) : T (n + 1) "require_node" [.tuple [sT ns, X], d] = .exc "InvalidNode" := by
  have hp := ok_plain d ok
  rw [H.own_require_node n, fn_eq _ _ _ _ rfl]
  unfold b_require_node
  cases d with
  | str s =>
    simp only [isNodeB, decide_eq_false_iff_not] at h
    tm_run
    simp only [h, decide_false]
    tm_run
  | dict _ => rw [okD] at ok; cases ok
  | _ => tm_run

/-! ### distances -/
theorem Net.look {ns : List Str} {es : Es} (h : Net ns es) {a b : Str} (ha : a ∈ ns) (hb : b ∈ ns) : look (bfs es a) b = some (dist es a b) := by
  obtain ⟨nd, hm⟩ := bfs_spec h.toPre ha
  exact look_of_mem nd ((hm _ _).mpr (h.isD ha hb))
abbrev stepsD (es : Es) (a : Str) : D := .dict ((bfs es a).map (kv .str nI))
theorem pIx_steps {ns : List Str} {es : Es} (h : Net ns es) {a b : Str} (ha : a ∈ ns) (hb : b ∈ ns) : pIx [stepsD es a, .str b] = some (nI (dist es a b), false) := pIx_dict key_str _ b _ (h.look ha hb)
/-- a tuple of numbers -/
abbrev nT (xs : List Nat) : D := .tuple (xs.map nI)
theorem row_run {T : Nat → Str → Fn} [H : H_row_of T] (n : Nat) {ns : List Str} {es : Es} (h : Net ns es) {a : Str} (ha : a ∈ ns) : T (n + 3) "row_of" [net ns es, .str a] = .ok (.tuple (ns.map fun b => nI (dist es a b))) false [] := by
  have nl := h.len
  rw [H.own_row_of (n + 2), fn_eq _ _ _ _ rfl]
  unfold b_row_of
  tm_run
  rw [steps_run (T := T) n h.toPre ha]
  tm_run
  rw [lcm PyData.str ns (fun b => nI (dist es a b))]
  · tm_run
  · tm_run
  · exact ⟨rfl, rfl, rfl⟩
  · intro b hb
    have := pIx_steps h ha hb
    tm_run
    rw [this]
    tm_run
  · rw [sizeLine_eq]; omega
theorem distance_run {T : Nat → Str → Fn} [H : H_distance T] (n : Nat) {ns : List Str} {es : Es} (h : Net ns es) {a b : Str} (ha : a ∈ ns) (hb : b ∈ ns) : T (n + 6) "distance" [net ns es, .str a, .str b] = .ok (nI (dist es a b)) false [] := by
  have ix := pIx_steps h ha hb
  rw [H.own_distance (n + 5), fn_eq _ _ _ _ rfl]
  unfold b_distance
  tm_run
  rw [req_ok (T := T) n h]
  tm_run
  rw [node_ok (T := T) (n + 4) ha]
  tm_run
  rw [node_ok (T := T) (n + 4) hb]
  tm_run
  rw [steps_run (T := T) (n + 3) h.toPre ha]
  tm_run
  rw [ix]
  tm_run
theorem distance_net {T : Nat → Str → Fn} [H : H_distance T] (n : Nat) {d x y : D} (ok : okD d = true) (h : isNetB d = false) : T (n + 6) "distance" [d, x, y] = .exc "InvalidNetwork" := by
  rw [H.own_distance (n + 5), fn_eq _ _ _ _ rfl]
  unfold b_distance
  tm_run
  rw [req_bad (T := T) n ok h]
  tm_run
theorem distance_one {T : Nat → Str → Fn} [H : H_distance T] (n : Nat) {ns : List Str} {es : Es} (h : Net ns es) {x y : D} (ok : okD x = true) (hx : isNodeB ns x = false) : T (n + 6) "distance" [net ns es, x, y] = .exc "InvalidNode" := by
  rw [H.own_distance (n + 5), fn_eq _ _ _ _ rfl]
  unfold b_distance
  tm_run
  rw [req_ok (T := T) n h]
  tm_run
  rw [node_bad (T := T) (n + 4) ok hx]
  tm_run
theorem distance_two {T : Nat → Str → Fn} [H : H_distance T] (n : Nat) {ns : List Str} {es : Es} (h : Net ns es) {a : Str} (ha : a ∈ ns) {y : D} (ok : okD y = true) (hx : isNodeB ns y = false) : T (n + 6) "distance" [net ns es, .str a, y] = .exc "InvalidNode" := by
  rw [H.own_distance (n + 5), fn_eq _ _ _ _ rfl]
  unfold b_distance
  tm_run
  rw [req_ok (T := T) n h]
  tm_run
  rw [node_ok (T := T) (n + 4) ha]
  tm_run
  rw [node_bad (T := T) (n + 4) ok hx]
  tm_run
theorem distances_run {T : Nat → Str → Fn} [H : H_distances T] (n : Nat) {ns : List Str} {es : Es} (h : Net ns es) {a : Str} (ha : a ∈ ns) : T (n + 6) "distances" [net ns es, .str a] = .ok (.tuple (ns.map fun b => nI (dist es a b))) false [] := by
  rw [H.own_distances (n + 5), fn_eq _ _ _ _ rfl]
  unfold b_distances
  tm_run
  rw [req_ok (T := T) n h]
  tm_run
  rw [node_ok (T := T) (n + 4) ha]
  tm_run
  rw [row_run (T := T) (n + 2) h ha]
  tm_run
theorem distances_one {T : Nat → Str → Fn} [H : H_distances T] (n : Nat) {ns : List Str} {es : Es} (h : Net ns es) {x : D} (ok : okD x = true) (hx : isNodeB ns x = false) : T (n + 6) "distances" [net ns es, x] = .exc "InvalidNode" := by
  rw [H.own_distances (n + 5), fn_eq _ _ _ _ rfl]
  unfold b_distances
  tm_run
  rw [req_ok (T := T) n h]
  tm_run
  rw [node_bad (T := T) (n + 4) ok hx]
  tm_run
theorem neighbours_run {T : Nat → Str → Fn} [H : H_neighbours T] (n : Nat) {ns : List Str} {es : Es} (h : Net ns es) {a : Str} (ha : a ∈ ns) : T (n + 6) "neighbours" [net ns es, .str a] = .ok (sT (ns.filter (adj es a))) false [] := by
  have el := h.elen
  rw [H.own_neighbours (n + 5), fn_eq _ _ _ _ rfl]
  unfold b_neighbours
  tm_run
  rw [req_ok (T := T) n h]
  tm_run
  rw [node_ok (T := T) (n + 4) ha]
  tm_run
  rw [beside_run (T := T) (n + 4) es a (by omega), h.beside]
  tm_run
theorem neighbours_one {T : Nat → Str → Fn} [H : H_neighbours T] (n : Nat) {ns : List Str} {es : Es} (h : Net ns es) {x : D} (ok : okD x = true) (hx : isNodeB ns x = false) : T (n + 6) "neighbours" [net ns es, x] = .exc "InvalidNode" := by
  rw [H.own_neighbours (n + 5), fn_eq _ _ _ _ rfl]
  unfold b_neighbours
  tm_run
  rw [req_ok (T := T) n h]
  tm_run
  rw [node_bad (T := T) (n + 4) ok hx]
  tm_run
theorem neighbours_net {T : Nat → Str → Fn} [H : H_neighbours T] (n : Nat) {d x : D} (ok : okD d = true) (h : isNetB d = false) : T (n + 6) "neighbours" [d, x] = .exc "InvalidNetwork" := by
  rw [H.own_neighbours (n + 5), fn_eq _ _ _ _ rfl]
  unfold b_neighbours
  tm_run
  rw [req_bad (T := T) n ok h]
  tm_run

theorem filt_nil {α : Type} (p : α → Bool) (xs : List α) : xs.filter p = [] ↔ ∀ x ∈ xs, p x = false := by
  rw [List.filter_eq_nil_iff]
  simp
theorem ex_imp {r : Re Fl} {P Q : En → Prop} (h : ∀ e, P e → Q e) (x : ∃ e', r = .ok .next e' ∧ P e') : ∃ e', r = .ok .next e' ∧ Q e' := let ⟨e', h1, h2⟩ := x; ⟨e', h1, h e' h2⟩
/-! ### shapes -/
/-- the neighbours -/
abbrev nbs (ns : List Str) (es : Es) (a : Str) : List Str := ns.filter (adj es a)
theorem Pre.besideN {ns : List Str} {es : Es} (h : Pre ns es) (a : Str) : besideP es a = nbs ns es a := h.beside a
def treeB (ns : List Str) (es : Es) : Bool := decide (es.length + 1 = ns.length)
def pathB (ns : List Str) (es : Es) : Bool := treeB ns es && ns.all fun a => decide ((nbs ns es a).length ≤ 2)
theorem has_tree_run {T : Nat → Str → Fn} [H : H_has_tree T] (n : Nat) {ns : List Str} {es : Es} (h : Pre ns es) : T (n + 1) "has_tree" [net ns es] = .ok (.bool (treeB ns es)) false [] := by
  rw [H.own_has_tree n, fn_eq _ _ _ _ rfl]
  unfold b_has_tree
  tm_run
  congr 2
  unfold treeB
  have := List.length_pos_iff.mpr h.ne
  rw [List.length_map, List.length_map]
  exact decide_eq_decide.mpr (by omega)
theorem has_path_run {T : Nat → Str → Fn} [H : H_has_path T] (n : Nat) {ns : List Str} {es : Es} (h : Pre ns es) : T (n + 2) "has_path" [net ns es] = .ok (.bool (pathB ns es)) false [] := by
  have el := h.elen
  have nl := h.len
  rw [H.own_has_path (n + 1), fn_eq _ _ _ _ rfl]
  unfold b_has_path
  tm_run
  rw [has_tree_run (T := T) n h]
  unfold pathB
  tm_run
  cases q : treeB ns es with
  | false => tm_run; rfl
  | true =>
    tm_run
    rw [lcm PyData.str ns (fun a => .bool (decide ((nbs ns es a).length ≤ 2)))]
    · tm_run
      rw [Bool.true_and]
    · tm_run
    · exact ⟨rfl, rfl, rfl⟩
    · intro a ha
      tm_run
      rw [beside_run (T := T) n es a (by omega), h.besideN]
      tm_run
      rw [List.length_map]
      congr 3
      exact decide_eq_decide.mpr (by omega)
    · rw [sizeLine_eq]; omega
theorem leaves_run {T : Nat → Str → Fn} [H : H_leaves_of T] (n : Nat) {ns : List Str} {es : Es} (h : Pre ns es) : T (n + 2) "leaves_of" [net ns es] = .ok (sL (ns.filter fun a => decide ((nbs ns es a).length = 1))) true [] := by
  have el := h.elen
  have nl := h.len
  rw [H.own_leaves_of (n + 1), fn_eq _ _ _ _ rfl]
  unfold b_leaves_of
  tm_run
  rw [lc PyData.str ns (fun a => decide ((nbs ns es a).length = 1)) (fun a => .str a)]
  · tm_run
  · tm_run
  · exact ⟨rfl, rfl, rfl⟩
  · intro a ha
    tm_run
    rw [beside_run (T := T) n es a (by omega), h.besideN]
    tm_run
    rw [List.length_map, show decide (((nbs ns es a).length : Int) = 1) = decide ((nbs ns es a).length = 1) from decide_eq_decide.mpr (by omega)]
  · rw [sizeLine_eq]; omega
theorem tree_ok {T : Nat → Str → Fn} [H : H_require_tree T] (n : Nat) {ns : List Str} {es : Es} (h : Net ns es) (t : treeB ns es = true) : T (n + 6) "require_tree" [net ns es] = .ok .none false [] := by
  rw [H.own_require_tree (n + 5), fn_eq _ _ _ _ rfl]
  unfold b_require_tree
  tm_run
  rw [req_ok (T := T) n h]
  tm_run
  rw [has_tree_run (T := T) (n + 4) h.toPre, t]
  tm_run
theorem tree_no {T : Nat → Str → Fn} [H : H_require_tree T] (n : Nat) {ns : List Str} {es : Es} (h : Net ns es) (t : treeB ns es = false) : T (n + 6) "require_tree" [net ns es] = .exc "NotATree" := by
  rw [H.own_require_tree (n + 5), fn_eq _ _ _ _ rfl]
  unfold b_require_tree
  tm_run
  rw [req_ok (T := T) n h]
  tm_run
  rw [has_tree_run (T := T) (n + 4) h.toPre, t]
  tm_run
theorem tree_bad {T : Nat → Str → Fn} [H : H_require_tree T] (n : Nat) {d : D} (ok : okD d = true) (h : isNetB d = false) : T (n + 6) "require_tree" [d] = .exc "InvalidNetwork" := by
  rw [H.own_require_tree (n + 5), fn_eq _ _ _ _ rfl]
  unfold b_require_tree
  tm_run
  rw [req_bad (T := T) n ok h]
  tm_run
/-! ### the foot of a leaf -/
def footGo (nb : Str → List Str) : Nat → Str → Str → Str
  | 0, _, x => x
  | k + 1, b, x => if (nb x).length = 2 then footGo nb k x (((nb x).filter fun y => !decide (y = b)).headD x) else x
def lawStep (nb : Str → List Str) (s : List Str × Str) : List Str × Str := if (nb s.2).length = 2 then (s.1 ++ [s.2], ((nb s.2).filter fun y => !decide (y ∈ s.1)).headD s.2) else s
/-- on the way from a leaf -/
structure OnWay (ns : List Str) (es : Es) (seen : List Str) (b x : Str) : Prop where
  nd : seen.Nodup
  sub : ∀ y ∈ seen, y ∈ ns
  xn : x ∈ ns
  xs : x ∉ seen
  bs : b ∈ seen
  bx : adj es x b = true
  all : ∀ y ∈ seen, ∀ z, adj es y z = true → z ∈ seen ∨ z = x
  one : ∀ y ∈ seen, adj es x y = true → y = b
theorem filter_one {xs : List Str} (nd : xs.Nodup) {b : Str} (hb : b ∈ xs) (hl : xs.length = 2) : ∃ w, w ∈ xs ∧ w ≠ b ∧ xs.filter (fun y => !decide (y = b)) = [w] := by
  match xs, hl with
  | [p, q], _ =>
    simp only [List.nodup_cons, List.mem_cons, List.not_mem_nil, or_false, not_false_eq_true, List.nodup_nil, and_true] at nd hb
    rcases hb with rfl | rfl
    · exact ⟨q, by simp, fun e => nd e.symm, by simp [Ne.symm nd]⟩
    · exact ⟨p, by simp, nd, by simp [nd]⟩
theorem OnWay.step {ns : List Str} {es : Es} (h : Pre ns es) {seen : List Str} {b x : Str} (i : OnWay ns es seen b x) (hl : (nbs ns es x).length = 2) :
    ∃ w, (nbs ns es x).filter (fun y => !decide (y = b)) = [w] ∧ (nbs ns es x).filter (fun y => !decide (y ∈ seen)) = [w] ∧ OnWay ns es (seen ++ [x]) x w := by
  have nd : (nbs ns es x).Nodup := h.asc.nodup.filter _
  have hb : b ∈ nbs ns es x := List.mem_filter.mpr ⟨i.sub b i.bs, i.bx⟩
  obtain ⟨w, hw, hwb, hf⟩ := filter_one nd hb hl
  obtain ⟨wn, wx⟩ := List.mem_filter.mp hw
  have wseen : w ∉ seen := fun q => hwb (i.one w q wx)
  have wnx : w ≠ x := fun e => h.adj_ne wx e.symm
  refine ⟨w, hf, ?_, ?_⟩
  · rw [← hf]
    apply List.filter_congr
    intro y hy
    obtain ⟨_, yx⟩ := List.mem_filter.mp hy
    congr 1
    refine decide_eq_decide.mpr ⟨fun q => i.one y q yx, fun e => e ▸ i.bs⟩
  · have two : ∀ z, adj es x z = true → z = b ∨ z = w := by
      intro z hz
      have hzm : z ∈ nbs ns es x := List.mem_filter.mpr ⟨(h.adj_mem hz).2, hz⟩
      by_cases e : z = b
      · exact .inl e
      · have : z ∈ (nbs ns es x).filter fun y => !decide (y = b) := List.mem_filter.mpr ⟨hzm, by simp [e]⟩
        rw [hf, List.mem_singleton] at this
        exact .inr this
    refine ⟨?_, ?_, wn, ?_, by simp, by rw [adj_comm]; exact wx, ?_, ?_⟩
    · rw [List.nodup_append]
      exact ⟨i.nd, by simp, fun p hp q hq e => i.xs (by rw [List.mem_singleton] at hq; rw [← hq, ← e]; exact hp)⟩
    · intro y hy
      rcases List.mem_append.mp hy with hy | hy
      · exact i.sub y hy
      · rw [List.mem_singleton] at hy; rw [hy]; exact i.xn
    · rw [List.mem_append, List.mem_singleton]
      rintro (q | q)
      · exact wseen q
      · exact wnx q
    · intro y hy z hz
      rcases List.mem_append.mp hy with hy | hy
      · rcases i.all y hy z hz with q | q
        · exact .inl (List.mem_append_left _ q)
        · exact .inl (by rw [q]; simp)
      · rw [List.mem_singleton] at hy
        subst hy
        rcases two z hz with q | q
        · exact .inl (List.mem_append_left _ (q ▸ i.bs))
        · exact .inr q
    · intro y hy q
      rcases List.mem_append.mp hy with hy | hy
      · rcases i.all y hy w (by rw [adj_comm]; exact q) with z | z
        · exact absurd z wseen
        · exact absurd z wnx
      · exact List.mem_singleton.mp hy
theorem OnWay.len {ns : List Str} {es : Es} {seen : List Str} {b x : Str} (i : OnWay ns es seen b x) : seen.length + 1 ≤ ns.length := by
  have := List.Nodup.length_le_of_subset (l₁ := x :: seen) (l₂ := ns) (List.nodup_cons.mpr ⟨i.xs, i.nd⟩) (List.cons_subset.mpr ⟨i.xn, i.sub⟩)
  simpa using this
def iter {α : Type} (f : α → α) : Nat → α → α
  | 0, a => a
  | k + 1, a => iter f k (f a)
theorem iter_fix {α : Type} {f : α → α} {a : α} (h : f a = a) : ∀ k, iter f k a = a
  | 0 => rfl
  | k + 1 => by rw [iter, h, iter_fix h k]
theorem foot_same {ns : List Str} {es : Es} (h : Pre ns es) : ∀ (k : Nat) (seen : List Str) (b x : Str), OnWay ns es seen b x → footGo (nbs ns es) k b x = (iter (lawStep (nbs ns es)) k (seen, x)).2
  | 0, _, _, _, _ => rfl
  | k + 1, seen, b, x, i => by
    by_cases hl : (nbs ns es x).length = 2
    · obtain ⟨w, h1, h2, i2⟩ := i.step h hl
      rw [footGo, if_pos hl, h1, iter]
      have e : lawStep (nbs ns es) (seen, x) = (seen ++ [x], w) := by
        unfold lawStep
        rw [if_pos hl, h2]
        rfl
      rw [e]
      exact foot_same h k _ _ _ i2
    · rw [footGo, if_neg hl, iter_fix]
      unfold lawStep
      rw [if_neg hl]
theorem onWay0 {ns : List Str} {es : Es} (h : Pre ns es) {a x : Str} (ha : a ∈ ns) (hx : nbs ns es a = [x]) : OnWay ns es [a] a x := by
  have hm : x ∈ nbs ns es a := by rw [hx]; simp
  obtain ⟨xn, ax⟩ := List.mem_filter.mp hm
  refine ⟨by simp, by simpa using ha, xn, fun q => h.adj_ne ax (List.mem_singleton.mp q).symm, by simp, by rw [adj_comm]; exact ax, fun y hy z hz => ?_, fun y hy _ => List.mem_singleton.mp hy⟩
  rw [List.mem_singleton] at hy
  subst hy
  have : z ∈ nbs ns es y := List.mem_filter.mpr ⟨(h.adj_mem hz).2, hz⟩
  rw [hx, List.mem_singleton] at this
  exact .inr this
/-- the foot of a leaf -/
def footP (ns : List Str) (es : Es) (a : Str) : Str := footGo (nbs ns es) 8 a ((nbs ns es a).headD a)
theorem foot_run {T : Nat → Str → Fn} [H : H_foot_of T] (n : Nat) {ns : List Str} {es : Es} (h : Pre ns es) {a : Str} (ha : a ∈ ns) (hd : (nbs ns es a).length = 1) : T (n + 2) "foot_of" [net ns es, .str a] = .ok (.str (footP ns es a)) false [] := by
  obtain ⟨x, hx⟩ : ∃ x, nbs ns es a = [x] := List.length_eq_one_iff.mp hd
  have el := h.elen
  have nl := h.len
  have i0 := onWay0 h ha hx
  rw [H.own_foot_of (n + 1), fn_eq _ _ _ _ rfl]
  unfold b_foot_of
  tm_run
  rw [beside_run (T := T) n es a (by omega), h.besideN, hx]
  tm_run
  generalize hq : sWhile _ _ _ = r
  obtain ⟨e', rfl, v2, v4, rfl⟩ : ∃ e', r = .ok .next e' ∧ ∃ v2 v4 : Option (Bool × D), e' = [some (false, net ns es), some (false, .str a), v2, some (false, .str (footP ns es a)), v4, none] := by
    rw [← hq]
    refine while_run (fun k e => ∃ (seen : List Str) (b x : Str) (v4 : Option (Bool × D)), OnWay ns es seen b x ∧ k + seen.length = 9 ∧ footGo (nbs ns es) k b x = footP ns es a ∧ e = [some (false, net ns es), some (false, .str a), some (false, .str b), some (false, .str x), v4, none])
      (fun e => ∃ v2 v4 : Option (Bool × D), e = [some (false, net ns es), some (false, .str a), v2, some (false, .str (footP ns es a)), v4, none]) (k := 8) (by decide) ⟨[a], a, x, none, i0, rfl, by rw [footP, hx]; rfl, rfl⟩ ?_
    rintro k e ⟨seen, b, x, v4, i, hk, hf, rfl⟩
    have il := i.len
    have lf : (nbs ns es x).length ≤ sizeLine := Nat.le_trans (List.length_filter_le _ _) (by rw [sizeLine_eq]; omega)
    refine ⟨decide ((nbs ns es x).length = 2), [some (false, net ns es), some (false, .str a), some (false, .str b), some (false, .str x), v4, none], ?_, fun hc => ?_, fun hc => ?_⟩
    · tm_run
      rw [beside_run (T := T) n es x (by omega), h.besideN]
      tm_run
      rw [List.length_map]
      congr 1
      exact decide_eq_decide.mpr (by omega)
    · simp only [decide_eq_false_iff_not] at hc
      obtain ⟨k', rfl⟩ : ∃ k', k = k' + 1 := ⟨k - 1, by omega⟩
      rw [footGo, if_neg hc] at hf
      exact ⟨_, _, by rw [← hf]⟩
    · simp only [decide_eq_true_eq] at hc
      obtain ⟨k', rfl⟩ : ∃ k', k = k' + 1 := ⟨k - 1, by omega⟩
      obtain ⟨w, h1, _, i2⟩ := i.step h hc
      rw [footGo, if_pos hc, h1] at hf
      refine ⟨[some (false, net ns es), some (false, .str a), some (false, .str x), some (false, .str w), some (true, sL [w]), none], k', ?_, by omega, seen ++ [x], x, w, _, i2, by rw [List.length_append]; simp; omega, hf, rfl⟩
      tm_run
      rw [lc PyData.str (nbs ns es x) (fun y => !decide (y = b)) (fun y => .str y)]
      · rw [h1]
        tm_run
        rfl
      · tm_run
        rw [beside_run (T := T) n es x (by omega), h.besideN]
        tm_run
      · exact ⟨rfl, rfl, rfl⟩
      · intro y hy
        tm_run
      · exact lf
  tm_run

/-! ### all pairs -/
def pairsP : List Str → List (Str × Str)
  | [] => []
  | x :: xs => (xs.map fun y => (x, y)) ++ pairsP xs
theorem pairsP_mem {a b : Str} : ∀ {ns : List Str}, Asc .str ns → ((a, b) ∈ pairsP ns ↔ a ∈ ns ∧ b ∈ ns ∧ nlt a b = true)
  | [], _ => by simp [pairsP]
  | x :: xs, h => by
    unfold Asc at h
    rw [List.pairwise_cons] at h
    have ih := pairsP_mem (a := a) (b := b) (ns := xs) h.2
    simp only [pairsP, List.mem_append, List.mem_map, Prod.mk.injEq, List.mem_cons, ih]
    constructor
    · rintro (⟨y, hy, rfl, rfl⟩ | ⟨h1, h2, h3⟩)
      · exact ⟨.inl rfl, .inr hy, h.1 y hy⟩
      · exact ⟨.inr h1, .inr h2, h3⟩
    · rintro ⟨rfl | h1, rfl | h2, h3⟩
      · rw [nlt_irrefl] at h3; cases h3
      · exact .inl ⟨b, h2, rfl, rfl⟩
      · have := nlt_asymm h3
        rw [show nlt b a = true from h.1 a h1] at this
        cases this
      · exact .inr ⟨h1, h2, h3⟩
theorem pairsP_len : ∀ ns : List Str, ns.length ≤ 8 → (pairsP ns).length ≤ 64 := by
  have go : ∀ ns : List Str, (pairsP ns).length ≤ ns.length * ns.length := by
    intro ns
    induction ns with
    | nil => simp [pairsP]
    | cons x xs ih =>
      simp only [pairsP, List.length_append, List.length_map, List.length_cons]
      have : (xs.length + 1) * (xs.length + 1) = xs.length * xs.length + xs.length + xs.length + 1 := by
        rw [Nat.add_mul, Nat.mul_add]; omega
      omega
  intro ns h
  exact Nat.le_trans (go ns) (Nat.mul_le_mul h h)
theorem pairs_idx : ∀ (xs pre : List Str), (xs.zipIdx pre.length).flatMap (fun p => ((pre ++ xs).drop (p.2 + 1)).map fun y => (p.1, y)) = pairsP xs
  | [], pre => rfl
  | x :: xs, pre => by
    rw [List.zipIdx_cons, List.flatMap_cons]
    have e : pre ++ x :: xs = (pre ++ [x]) ++ xs := by simp
    have ih := pairs_idx xs (pre ++ [x])
    rw [List.length_append, List.length_singleton, ← e] at ih
    rw [ih, pairsP]
    congr 2
    rw [e, show pre.length + 1 = (pre ++ [x]).length by simp, List.drop_left]
theorem pairsP_asc : ∀ {ns : List Str}, Asc .str ns → Asc pr (pairsP ns)
  | [], _ => .nil
  | x :: xs, h => by
    unfold Asc at *
    rw [List.pairwise_cons] at h
    simp only [pairsP]
    rw [List.pairwise_append]
    refine ⟨?_, pairsP_asc (ns := xs) h.2, ?_⟩
    · rw [List.pairwise_map]
      refine h.2.imp fun {a b} q => ?_
      rw [pr_lt]
      simp only [if_true]
      exact q
    · intro p hp q hq
      obtain ⟨y, hy, rfl⟩ := List.mem_map.mp hp
      have := (pairsP_mem (a := q.1) (b := q.2) (ns := xs) h.2).mp hq
      have lt : nlt x q.1 = true := h.1 _ this.1
      rw [pr_lt]
      simp only [nlt_ne lt, if_false]
      exact lt
theorem pairs_run {T : Nat → Str → Fn} [H : H_pairs_of T] (n : Nat) (ns : List Str) (hl : ns.length ≤ 8) : T (n + 1) "pairs_of" [sT ns] = .ok (pL (pairsP ns)) false [] := by
  rw [H.own_pairs_of n, fn_eq _ _ _ _ rfl]
  unfold b_pairs_of
  tm_run
  rw [enumD_map PyData.str ns 0]
  generalize hq : forGo _ _ _ _ = r
  obtain ⟨e', rfl, v2, v3, rfl⟩ : ∃ e', r = .ok .next e' ∧ ∃ v2 v3 : Option (Bool × D), e' = [some (false, sT ns), some (true, pL (pairsP ns)), v2, v3, none] := by
    rw [← hq]
    refine ex_imp (fun e hp => ?_) (for_inv (fun p : Str × Nat => PyData.tuple [nI p.2, .str p.1]) ns.zipIdx (fun qs e => ∃ v2 v3 : Option (Bool × D), qs.length ≤ 8 ∧ (qs.flatMap fun p => (ns.drop (p.2 + 1)).map fun y => (p.1, y)).length ≤ qs.length * 8 ∧ e = [some (false, sT ns), some (true, pL (qs.flatMap fun p => (ns.drop (p.2 + 1)).map fun y => (p.1, y))), v2, v3, none]) _ ⟨none, none, by simp, by simp, rfl⟩ fun qs p zs e hx hp => ?_)
    · obtain ⟨v2, v3, _, _, rfl⟩ := hp
      have := pairs_idx ns []
      simp only [List.length_nil, List.nil_append] at this
      rw [this]
      exact ⟨_, _, rfl⟩
    · obtain ⟨v2, v3, h8, hf, rfl⟩ := hp
      have ql : qs.length + 1 ≤ 8 := by
        have e := congrArg List.length hx
        simp only [List.length_zipIdx, List.length_append, List.length_cons] at e
        omega
      have dl : ((ns.drop (p.2 + 1)).map fun y => (p.1, y)).length ≤ 8 := by rw [List.length_map, List.length_drop]; omega
      have e0 : (qs ++ [p]).flatMap (fun p => (ns.drop (p.2 + 1)).map fun y => (p.1, y)) = (qs.flatMap fun p => (ns.drop (p.2 + 1)).map fun y => (p.1, y)) ++ (ns.drop (p.2 + 1)).map fun y => (p.1, y) := by simp
      rw [e0]
      generalize (qs.flatMap fun p => (ns.drop (p.2 + 1)).map fun y => (p.1, y)) = F at hf
      refine ⟨[some (false, sT ns), some (true, pL (F ++ (ns.drop (p.2 + 1)).map fun y => (p.1, y))), some (false, nI p.2), some (false, .str p.1), none], ?_, _, _, by rw [List.length_append]; simp; omega, by rw [List.length_append, List.length_append]; simp only [List.length_singleton]; omega, rfl⟩
      have le : (F.map pr).length + ((ns.drop (p.2 + 1)).map fun y => pr (p.1, y)).length ≤ sizeLine := by
        rw [List.length_map] at dl
        rw [List.length_map, List.length_map, sizeLine_eq]; omega
      tm_run
      rw [lcm PyData.str (ns.drop (p.2 + 1)) (fun y => pr (p.1, y))]
      · tm_run
        rw [pL, List.map_append, List.map_map]
        rfl
      · simp only [nI_eq]
        tm_run
        rw [show ((p.2 : Int) + 1) = ((p.2 + 1 : Nat) : Int) by omega]
        tm_run
        rw [List.map_drop]
      · exact ⟨rfl, rfl, rfl⟩
      · intro y hy
        tm_run
        rfl
      · rw [List.length_drop, sizeLine_eq]; omega
  tm_run
theorem lpairs_run {T : Nat → Str → Fn} [H : H__law_pairs T] (n : Nat) {ns : List Str} (ha : Asc .str ns) (hl : ns.length ≤ 8) : T (n + 1) "_law_pairs" [sT ns] = .ok (pL (pairsP ns)) false [] := by
  have whole : (ns.flatMap fun a => (ns.filter (nlt a)).map fun b => (a, b)) = pairsP ns := by
    have go : ∀ (xs pre : List Str), Asc .str (pre ++ xs) → (xs.flatMap fun a => ((pre ++ xs).filter (nlt a)).map fun b => (a, b)) = pairsP xs := by
      intro xs
      induction xs with
      | nil => intro pre _; rfl
      | cons x xs ih =>
        intro pre h
        have e : pre ++ x :: xs = (pre ++ [x]) ++ xs := by simp
        have i2 := ih (pre ++ [x]) (by rw [← e]; exact h)
        rw [← e] at i2
        rw [List.flatMap_cons, i2, pairsP]
        congr 2
        unfold Asc at h
        rw [List.pairwise_append, List.pairwise_cons] at h
        rw [List.filter_append, List.filter_eq_nil_iff.mpr, List.nil_append, List.filter_cons_of_neg (by rw [nlt_irrefl]; simp), List.filter_eq_self.mpr]
        · exact fun b hb => h.2.1.1 b hb
        · intro b hb
          rw [nlt_asymm (show nlt b x = true from h.2.2 b hb x List.mem_cons_self)]
          simp
    exact go ns [] ha
  rw [H.own__law_pairs n, fn_eq _ _ _ _ rfl]
  unfold b__law_pairs
  tm_run
  generalize hq : forGo _ _ _ _ = r
  obtain ⟨e', rfl, v2, rfl⟩ : ∃ e', r = .ok .next e' ∧ ∃ v2 : Option (Bool × D), e' = [some (false, sT ns), some (true, pL (pairsP ns)), v2, none] := by
    rw [← hq]
    refine ex_imp (fun e hp => ?_) (for_inv PyData.str ns (fun qs e => ∃ v2 : Option (Bool × D), qs.length ≤ 8 ∧ (qs.flatMap fun a => (ns.filter (nlt a)).map fun b => (a, b)).length ≤ qs.length * 8 ∧ e = [some (false, sT ns), some (true, pL (qs.flatMap fun a => (ns.filter (nlt a)).map fun b => (a, b))), v2, none]) _ ⟨none, by simp, by simp, rfl⟩ fun qs a zs e hx hp => ?_)
    · obtain ⟨v2, _, _, rfl⟩ := hp
      rw [whole]
      exact ⟨_, rfl⟩
    · obtain ⟨v2, h8, hf, rfl⟩ := hp
      have ql : qs.length + 1 ≤ 8 := by
        have e := congrArg List.length hx
        simp only [List.length_append, List.length_cons] at e
        omega
      have dl : (ns.filter (nlt a)).length ≤ 8 := Nat.le_trans (List.length_filter_le _ _) hl
      have e0 : (qs ++ [a]).flatMap (fun a => (ns.filter (nlt a)).map fun b => (a, b)) = (qs.flatMap fun a => (ns.filter (nlt a)).map fun b => (a, b)) ++ (ns.filter (nlt a)).map fun b => (a, b) := by simp
      rw [e0]
      generalize (qs.flatMap fun a => (ns.filter (nlt a)).map fun b => (a, b)) = F at hf
      refine ⟨[some (false, sT ns), some (true, pL (F ++ (ns.filter (nlt a)).map fun b => (a, b))), some (false, .str a), none], ?_, _, by rw [List.length_append]; simp; omega, by rw [List.length_append, List.length_append, List.length_map]; simp only [List.length_singleton]; omega, rfl⟩
      have le : (F.map pr).length + ((ns.filter (nlt a)).map fun y => pr (a, y)).length ≤ sizeLine := by
        rw [List.length_map, List.length_map, sizeLine_eq]; omega
      tm_run
      rw [lc PyData.str ns (nlt a) (fun y => pr (a, y))]
      · tm_run
        rw [pL, List.map_append, List.map_map]
        rfl
      · tm_run
      · exact ⟨rfl, rfl, rfl⟩
      · intro y hy
        tm_run
        rfl
      · rw [sizeLine_eq]; omega
  tm_run

/-! ### tables over all pairs -/
abbrev F2 := Str → Str → Nat
def tabP (ps : List (Str × Str)) (f : F2) : D := .dict ((ps.map fun p => (p, f p.1 p.2)).map (kv pr nI))
def allP (ns : List Str) : List (Str × Str) := ns.flatMap fun a => ns.map fun b => (a, b)
theorem allP_mem {ns : List Str} {a b : Str} : (a, b) ∈ allP ns ↔ a ∈ ns ∧ b ∈ ns := by
  simp [allP]
abbrev tabD (ns : List Str) (f : F2) : D := tabP (allP ns) f
theorem look_tab (ps : List (Str × Str)) (f : F2) (a b : Str) (h : (a, b) ∈ ps) : look (ps.map fun p => (p, f p.1 p.2)) (a, b) = some (f a b) := by
  induction ps with
  | nil => cases h
  | cons p ps ih =>
    unfold look
    rw [List.map_cons, List.find?_cons]
    by_cases q : p = (a, b)
    · subst q; simp
    · simp only [q, decide_false]
      exact ih ((List.mem_cons.mp h).resolve_left fun e => q e.symm)
theorem pIx_tab {ps : List (Str × Str)} {f : F2} {a b : Str} (h : (a, b) ∈ ps) : pIx [tabP ps f, .tuple [.str a, .str b]] = some (nI (f a b), false) := pIx_dict key_pr _ (a, b) _ (look_tab ps f a b h)
def setF (f : F2) (a b : Str) (v : Nat) : F2 := fun x y => if x = a ∧ y = b then v else f x y
theorem kPut_tab {ps : List (Str × Str)} {f : F2} {a b : Str} (h : (a, b) ∈ ps) (hl : ps.length < sizeLine) (i : Nat) (e : En) (v : Nat) : kPut3 (nI v) i e (some (.tuple [.str a, .str b])) (some (some (true, tabP ps f))) = .ok .next (e.set i (some (true, tabP ps (setF f a b v)))) := by
  have k := kPut3_d (nI v) i e (pr (a, b)) ((ps.map fun p => (p, f p.1 p.2)).map (kv pr nI)) (kFits_map key_pr _ (a, b)) (by simpa using hl)
  rw [dPut_map key_pr] at k
  have u : upd (ps.map fun p => (p, f p.1 p.2)) (a, b) v = ps.map fun p => (p, setF f a b v p.1 p.2) := by
    unfold upd
    rw [if_pos]
    · rw [List.map_map]
      apply List.map_congr_left
      rintro ⟨x, y⟩ _
      simp only [Function.comp, setF, Prod.mk.injEq]
      split <;> rfl
    · rw [List.map_map]
      exact List.mem_map.mpr ⟨(a, b), h, rfl⟩
  rw [u] at k
  exact k
theorem kPut_new {ps : List (Str × Str)} {f : F2} {a b : Str} (h : (a, b) ∉ ps) (hl : ps.length < sizeLine) (i : Nat) (e : En) : kPut3 (nI (f a b)) i e (some (.tuple [.str a, .str b])) (some (some (true, tabP ps f))) = .ok .next (e.set i (some (true, tabP (ps ++ [(a, b)]) f))) := by
  have k := kPut3_d (nI (f a b)) i e (pr (a, b)) ((ps.map fun p => (p, f p.1 p.2)).map (kv pr nI)) (kFits_map key_pr _ (a, b)) (by simpa using hl)
  rw [dPut_new key_pr] at k
  · have u : (ps.map fun p => (p, f p.1 p.2)) ++ [((a, b), f a b)] = (ps ++ [(a, b)]).map fun p => (p, f p.1 p.2) := by simp
    rw [u] at k
    exact k
  · rw [List.map_map]
    intro q
    obtain ⟨p, hp, e⟩ := List.mem_map.mp q
    exact h (e ▸ hp)
/-! ### all shortest ways -/
def f0 (es : Es) : F2 := fun a b => if a = b then 0 else if adj es a b then 1 else 99
def relax (m a : Str) (f : F2) (b : Str) : F2 := setF f a b (min (f a b) (f a m + f m b))
def relaxA (ns : List Str) (m : Str) (f : F2) (a : Str) : F2 := ns.foldl (relax m a) f
def relaxM (ns : List Str) (f : F2) (m : Str) : F2 := ns.foldl (relaxA ns m) f
def floyd (ns : List Str) (es : Es) : F2 := ns.foldl (relaxM ns) (f0 es)
def leF (g f : F2) : Prop := ∀ a b, g a b ≤ f a b
theorem leF.refl (f : F2) : leF f f := fun _ _ => Nat.le_refl _
theorem leF.trans {f g h : F2} (h1 : leF h g) (h2 : leF g f) : leF h f := fun a b => Nat.le_trans (h1 a b) (h2 a b)
theorem relax_le (m a : Str) (f : F2) (b : Str) : leF (relax m a f b) f := by
  intro x y
  unfold relax setF
  split
  · rename_i h
    rw [h.1, h.2]
    omega
  · exact Nat.le_refl _
theorem fold_le {g : F2 → Str → F2} (h : ∀ f x, leF (g f x) f) : ∀ (xs : List Str) (f : F2), leF (xs.foldl g f) f
  | [], f => leF.refl f
  | x :: xs, f => (fold_le h xs (g f x)).trans (h f x)
theorem relaxA_le (ns : List Str) (m : Str) (f : F2) (a : Str) : leF (relaxA ns m f a) f := fold_le (fun f b => relax_le m a f b) ns f
theorem relaxM_le (ns : List Str) (f : F2) (m : Str) : leF (relaxM ns f m) f := fold_le (fun f a => relaxA_le ns m f a) ns f
/-- each one of the turns does its work -/
theorem fold_done {g : F2 → Str → F2} (h : ∀ f x, leF (g f x) f) {P : Str → F2 → F2 → Prop} (hP : ∀ x f f' h' h'', leF f' f → leF h'' h' → P x f' h' → P x f h'') (hg : ∀ f x, P x f (g f x)) : ∀ (xs : List Str) (f : F2) (x : Str), x ∈ xs → P x f (xs.foldl g f)
  | [], f, x, hx => by cases hx
  | y :: ys, f, x, hx => by
    rcases List.mem_cons.mp hx with rfl | hx
    · exact hP x f f _ _ (leF.refl f) (fold_le h ys _) (hg f x)
    · exact hP x f (g f y) _ _ (h f y) (leF.refl _) (fold_done h hP hg ys (g f y) x hx)
theorem relaxA_done (ns : List Str) (m : Str) (f : F2) (a b : Str) (hb : b ∈ ns) : relaxA ns m f a a b ≤ f a m + f m b := by
  refine fold_done (g := relax m a) (fun f b => relax_le m a f b) (P := fun b f h => h a b ≤ f a m + f m b) (fun x f f' h' h'' l1 l2 p => ?_) (fun f x => ?_) ns f b hb
  · have := l1 a m
    have := l1 m x
    have := l2 a x
    omega
  · unfold relax setF
    rw [if_pos ⟨rfl, rfl⟩]
    omega
theorem relaxM_done (ns : List Str) (f : F2) (m a b : Str) (ha : a ∈ ns) (hb : b ∈ ns) : relaxM ns f m a b ≤ f a m + f m b := by
  refine fold_done (g := relaxA ns m) (fun f a => relaxA_le ns m f a) (P := fun a f h => h a b ≤ f a m + f m b) (fun x f f' h' h'' l1 l2 p => ?_) (fun f x => relaxA_done ns m f x b hb) ns f a ha
  have := l1 x m
  have := l1 m b
  have := l2 x b
  omega
/-- what is below 99 is a walk -/
def Real (es : Es) (f : F2) : Prop := ∀ a b, 99 ≤ f a b ∨ Walk es (f a b) a b
theorem fold_real {es : Es} {g : F2 → Str → F2} (h : ∀ f x, Real es f → Real es (g f x)) : ∀ (xs : List Str) (f : F2), Real es f → Real es (xs.foldl g f)
  | [], f, q => q
  | x :: xs, f, q => fold_real h xs (g f x) (h f x q)
theorem relax_real {es : Es} (m a : Str) (f : F2) (b : Str) (h : Real es f) : Real es (relax m a f b) := by
  intro x y
  unfold relax setF
  split
  · rename_i q
    rw [q.1, q.2]
    rcases Nat.le_total (f a b) (f a m + f m b) with l | l
    · rw [Nat.min_eq_left l]; exact h a b
    · rw [Nat.min_eq_right l]
      rcases h a m with h1 | h1
      · exact .inl (by omega)
      · rcases h m b with h2 | h2
        · exact .inl (by omega)
        · exact .inr (h1.app h2)
  · exact h x y
theorem f0_real (es : Es) : Real es (f0 es) := by
  intro a b
  unfold f0
  split
  · rename_i e; subst e; exact .inr (.nil a)
  · split
    · rename_i q; exact .inr (.one q)
    · exact .inl (Nat.le_refl _)
theorem floyd_real (ns : List Str) (es : Es) : Real es (floyd ns es) := fold_real (fun f m h => fold_real (fun f a h => fold_real (fun f b h => relax_real m a f b h) ns f h) ns f h) ns _ (f0_real es)
/-- a walk with all that lies between in M -/
inductive WalkIn (es : Es) (M : List Str) : Nat → Str → Str → Prop
  | nil (a : Str) : WalkIn es M 0 a a
  | one {a b : Str} : adj es a b = true → WalkIn es M 1 a b
  | cons {k : Nat} {a b c : Str} : adj es a b = true → b ∈ M → WalkIn es M k b c → WalkIn es M (k + 1) a c
theorem WalkIn.split {es : Es} {M : List Str} {m : Str} {k : Nat} {a b : Str} (h : WalkIn es (M ++ [m]) k a b) : WalkIn es M k a b ∨ ∃ i j, i + j ≤ k ∧ WalkIn es M i a m ∧ WalkIn es M j m b := by
  induction h with
  | nil a => exact .inl (.nil a)
  | one q => exact .inl (.one q)
  | @cons k a c b q hc w ih =>
    rcases List.mem_append.mp hc with hc | hc
    · rcases ih with ih | ⟨i, j, h1, h2, h3⟩
      · exact .inl (.cons q hc ih)
      · exact .inr ⟨i + 1, j, by omega, .cons q hc h2, h3⟩
    · rw [List.mem_singleton] at hc
      subst hc
      rcases ih with ih | ⟨i, j, h1, h2, h3⟩
      · exact .inr ⟨1, k, by omega, .one q, ih⟩
      · exact .inr ⟨1, j, by omega, .one q, h3⟩
theorem floyd_le {ns : List Str} {es : Es} (hns : ∀ a b, adj es a b = true → a ∈ ns ∧ b ∈ ns) : ∀ (M R : List Str) (f : F2), (∀ m ∈ R, m ∈ ns) → (∀ a ∈ ns, ∀ b ∈ ns, ∀ k, WalkIn es M k a b → f a b ≤ k) → ∀ a ∈ ns, ∀ b ∈ ns, ∀ k, WalkIn es (M ++ R) k a b → R.foldl (relaxM ns) f a b ≤ k
  | M, [], f, _, h, a, ha, b, hb, k, w => by
    rw [List.append_nil] at w
    exact h a ha b hb k w
  | M, m :: R, f, hR, h, a, ha, b, hb, k, w => by
    have hm := hR m List.mem_cons_self
    refine floyd_le hns (M ++ [m]) R (relaxM ns f m) (fun x hx => hR x (List.mem_cons_of_mem _ hx)) (fun x hx y hy k w => ?_) a ha b hb k (by rw [List.append_assoc]; exact w)
    rcases w.split with w | ⟨i, j, h1, h2, h3⟩
    · exact Nat.le_trans (relaxM_le ns f m x y) (h x hx y hy k w)
    · have d := relaxM_done ns f m x y hx hy
      have e1 := h x hx m hm i h2
      have e2 := h m hm y hy j h3
      omega
theorem Walk.inAll {ns : List Str} {es : Es} (hns : ∀ a b, adj es a b = true → a ∈ ns ∧ b ∈ ns) {k : Nat} {a b : Str} (w : Walk es k a b) : WalkIn es ns k a b := by
  induction w with
  | nil a => exact .nil a
  | cons q _ ih => exact .cons q (hns _ _ q).2 ih
theorem floyd_dist {ns : List Str} {es : Es} (h : Pre ns es) {a b : Str} (ha : a ∈ ns) (hb : b ∈ ns) : (∀ d, IsD es a b d → floyd ns es a b = d) ∧ ((∀ k, ¬ Walk es k a b) → 99 ≤ floyd ns es a b) := by
  have hns : ∀ a b, adj es a b = true → a ∈ ns ∧ b ∈ ns := fun a b q => h.adj_mem q
  have le : ∀ k, Walk es k a b → floyd ns es a b ≤ k := fun k w => by
    refine floyd_le hns [] ns (f0 es) (fun m hm => hm) (fun a ha b hb k w => ?_) a ha b hb k (by rw [List.nil_append]; exact w.inAll hns)
    cases w with
    | nil => simp [f0]
    | one q =>
      unfold f0
      split <;> simp_all
    | cons q hm _ => cases hm
  refine ⟨fun d hd => ?_, fun hn => ?_⟩
  · have l := le d hd.1
    have lt := h.dlt ha hd
    have := h.len
    rcases floyd_real ns es a b with q | q
    · omega
    · exact Nat.le_antisymm l (hd.le q)
  · rcases floyd_real ns es a b with q | q
    · exact q
    · exact absurd q (hn _)
theorem Net.floyd {ns : List Str} {es : Es} (h : Net ns es) {a b : Str} (ha : a ∈ ns) (hb : b ∈ ns) : floyd ns es a b = dist es a b := (floyd_dist h.toPre ha hb).1 _ (h.isD ha hb)
/-- tables that tell the same of the nodes are the same -/
theorem tabD_congr {ns : List Str} {f g : F2} (h : ∀ a ∈ ns, ∀ b ∈ ns, f a b = g a b) : tabD ns f = tabD ns g := by
  unfold tabD tabP
  congr 2
  apply List.map_congr_left
  rintro ⟨a, b⟩ hp
  obtain ⟨ha, hb⟩ := allP_mem.mp hp
  simp only [h a ha b hb]
theorem allP_len (ns : List Str) : (allP ns).length = ns.length * ns.length := by
  unfold allP
  rw [List.length_flatMap]
  simp only [List.length_map]
  have go : ∀ (xs : List Str) (c : Nat), (xs.map fun _ => c).sum = xs.length * c := by
    intro xs c
    induction xs with
    | nil => simp
    | cons x xs ih => simp [ih, Nat.add_mul]; omega
  exact go ns ns.length

theorem min_int (x y z : Nat) : (if (x : Int) + (y : Int) < (z : Int) then (x : Int) + (y : Int) else (z : Int)) = ((min z (x + y) : Nat) : Int) := by
  split <;> omega
section
variable {ns : List Str} {es : Es}
/-- the first part: row by row -/
theorem table_row (hn : ns.Nodup) (hl : ns.length ≤ 8) (a : Str) (ps : List (Str × Str)) (hps : ∀ b, (a, b) ∉ ps) (pl : ps.length ≤ 64) (v4 v5 : Option (Bool × D)) :
    ∃ v4' v5', forGo (.nm 4) (sSeq (sAsg 5 (xOr (xPrim pIn [.ex (xTup [(xVar 2), (xVar 4)]), .ex (xPrim pIx [.nm 0, .ex (xLit (.int 1))])]) (xPrim pIn [.ex (xTup [(xVar 4), (xVar 2)]), .ex (xPrim pIx [.nm 0, .ex (xLit (.int 1))])]))) <|
        sPutI 1 (.ex (xTup [(xVar 2), (xVar 4)])) (xIf (tCmp (xPrim pEq [.nm 2, .nm 4])) (xLit (.int 0)) (xIf (tVal (.nm 5)) (xLit (.int 1)) (xLit (.int 99))))) (ns.map .str)
      [some (false, net ns es), some (true, tabP ps (f0 es)), some (false, .str a), none, v4, v5, none]
      = .ok .next [some (false, net ns es), some (true, tabP (ps ++ ns.map fun b => (a, b)) (f0 es)), some (false, .str a), none, v4', v5', none] := by
  have loop := for_inv (tg := .nm 4) (b := sSeq (sAsg 5 (xOr (xPrim pIn [.ex (xTup [(xVar 2), (xVar 4)]), .ex (xPrim pIx [.nm 0, .ex (xLit (.int 1))])]) (xPrim pIn [.ex (xTup [(xVar 4), (xVar 2)]), .ex (xPrim pIx [.nm 0, .ex (xLit (.int 1))])]))) <|
        sPutI 1 (.ex (xTup [(xVar 2), (xVar 4)])) (xIf (tCmp (xPrim pEq [.nm 2, .nm 4])) (xLit (.int 0)) (xIf (tVal (.nm 5)) (xLit (.int 1)) (xLit (.int 99)))))
    PyData.str ns (fun bs e => ∃ (v4 v5 : Option (Bool × D)), e = [some (false, net ns es), some (true, tabP (ps ++ bs.map fun b => (a, b)) (f0 es)), some (false, .str a), none, v4, v5, none])
    [some (false, net ns es), some (true, tabP ps (f0 es)), some (false, .str a), none, v4, v5, none] ⟨v4, v5, by rw [List.map_nil, List.append_nil]⟩ ?_
  · obtain ⟨e', q, v4', v5', rfl⟩ := loop
    exact ⟨v4', v5', q⟩
  · rintro bs b zs e hx ⟨v4, v5, rfl⟩
    have bl : bs.length ≤ 8 := by
      have : ns.length = bs.length + (zs.length + 1) := by rw [hx]; simp
      omega
    have bn : b ∉ bs := by
      intro hb
      rw [hx, List.nodup_append] at hn
      exact hn.2.2 b hb b List.mem_cons_self rfl
    have new : (a, b) ∉ ps ++ bs.map fun b => (a, b) := by
      rw [List.mem_append]
      rintro (h | h)
      · exact hps b h
      · obtain ⟨c, hc, e⟩ := List.mem_map.mp h
        cases e
        exact bn hc
    have pl2 : (ps ++ bs.map fun b => (a, b)).length < sizeLine := by rw [List.length_append, List.length_map, sizeLine_eq]; omega
    have key := fun e => kPut_new (f := f0 es) new pl2 1 e
    have app : ps ++ (bs ++ [b]).map (fun b => (a, b)) = (ps ++ bs.map fun b => (a, b)) ++ [(a, b)] := by simp
    generalize ps ++ bs.map (fun b => (a, b)) = qs at *
    rw [app]
    refine ⟨[some (false, net ns es), some (true, tabP (qs ++ [(a, b)]) (f0 es)), some (false, .str a), none, some (false, .str b), some (false, .bool (adj es a b)), none], ?_, _, _, rfl⟩
    have ea : (decide ((a, b) ∈ es) || decide ((b, a) ∈ es)) = adj es a b := rfl
    have near : sAsg 5 (xOr (xPrim pIn [.ex (xTup [(xVar 2), (xVar 4)]), .ex (xPrim pIx [.nm 0, .ex (xLit (.int 1))])]) (xPrim pIn [.ex (xTup [(xVar 4), (xVar 2)]), .ex (xPrim pIx [.nm 0, .ex (xLit (.int 1))])])) [some (false, net ns es), some (true, tabP qs (f0 es)), some (false, .str a), none, some (false, .str b), v5, none] = .ok .next [some (false, net ns es), some (true, tabP qs (f0 es)), some (false, .str a), none, some (false, .str b), some (false, .bool (adj es a b)), none] := by
      rw [← ea]
      tm_run
      cases q : decide ((a, b) ∈ es) with
      | true => tm_run; rfl
      | false => tm_run; rfl
    simp only [forOne_eq, put_nm, kOne_eq, List.set_cons_succ, List.set_cons_zero]
    rw [sSeq_eq, near, bok, kSeq_n]
    have fin : ∀ v, v = nI (f0 es a b) → (kPut1 1 (.ex (xTup [(xVar 2), (xVar 4)])) (v, false) [some (false, net ns es), some (true, tabP qs (f0 es)), some (false, .str a), none, some (false, .str b), some (false, .bool (adj es a b)), none]) = .ok .next [some (false, net ns es), some (true, tabP (qs ++ [(a, b)]) (f0 es)), some (false, .str a), none, some (false, .str b), some (false, .bool (adj es a b)), none] := by
      rintro v rfl
      tm_run
      rw [key]
      tm_run
    have val : xIf (tCmp (xPrim pEq [.nm 2, .nm 4])) (xLit (.int 0)) (xIf (tVal (.nm 5)) (xLit (.int 1)) (xLit (.int 99))) [some (false, net ns es), some (true, tabP qs (f0 es)), some (false, .str a), none, some (false, .str b), some (false, .bool (adj es a b)), none] = .ok (nI (f0 es a b), false) [some (false, net ns es), some (true, tabP qs (f0 es)), some (false, .str a), none, some (false, .str b), some (false, .bool (adj es a b)), none] := by
      by_cases q : a = b
      · tm_run
        simp only [q, decide_true]
        tm_run
        simp [f0, nI]
      · cases q2 : adj es a b with
        | true =>
          tm_run
          simp only [q, decide_false]
          tm_run
          simp [f0, nI, q, q2]
        | false =>
          tm_run
          simp only [q, decide_false]
          tm_run
          simp [f0, nI, q, q2]
    rw [sPutI_eq, val, bok]
    exact fin _ rfl
/-- the second part: a turn -/
theorem table_relax (hl : ns.length ≤ 8) {m a b : Str} (hm : m ∈ ns) (ha : a ∈ ns) (hb : b ∈ ns) (f : F2) (v4 v5 v6 : Option (Bool × D)) :
    forOne (.nm 4) (sSeq (sAsg 6 (xPrim pAdd [.ex (xPrim pIx [.nm 1, .ex (xTup [(xVar 2), (xVar 3)])]), .ex (xPrim pIx [.nm 1, .ex (xTup [(xVar 3), (xVar 4)])])])) <|
          sPutI 1 (.ex (xTup [(xVar 2), (xVar 4)])) (xPrim pMin2 [.ex (xPrim pIx [.nm 1, .ex (xTup [(xVar 2), (xVar 4)])]), .nm 6])) (.str b)
      [some (false, net ns es), some (true, tabD ns f), some (false, .str a), some (false, .str m), v4, v5, v6]
      = .ok .next [some (false, net ns es), some (true, tabD ns (relax m a f b)), some (false, .str a), some (false, .str m), some (false, .str b), v5, some (false, .int ((f a m : Int) + (f m b : Int)))] := by
  have i1 := pIx_tab (f := f) (allP_mem.mpr ⟨ha, hm⟩)
  have i2 := pIx_tab (f := f) (allP_mem.mpr ⟨hm, hb⟩)
  have i3 := pIx_tab (f := f) (allP_mem.mpr ⟨ha, hb⟩)
  have ll : (allP ns).length < sizeLine := by
    rw [allP_len, sizeLine_eq]
    have : ns.length * ns.length ≤ 8 * 8 := Nat.mul_le_mul hl hl
    omega
  have key := fun e => kPut_tab (f := f) (allP_mem.mpr ⟨ha, hb⟩) ll 1 e (min (f a b) (f a m + f m b))
  tm_run
  rw [i1]
  tm_run
  rw [i2]
  simp only [nI_eq]
  tm_run
  rw [i3]
  simp only [nI_eq]
  tm_run
  rw [min_int, ← nI_eq]
  rw [key]
  tm_run
  rfl
end
theorem table_run {T : Nat → Str → Fn} [H : H__law_table T] (n : Nat) {ns : List Str} {es : Es} (h : Pre ns es) : T (n + 1) "_law_table" [net ns es] = .ok (tabD ns (floyd ns es)) false [] := by
  rw [H.own__law_table n, fn_eq _ _ _ _ rfl]
  unfold b__law_table
  have nd := h.asc.nodup
  have hl := h.len
  have loop1 := for_inv (tg := .nm 2) (b := sFor (.val (xPrim pIx [.nm 0, .ex (xLit (.int 0))])) (.nm 4) (
        sSeq (sAsg 5 (xOr (xPrim pIn [.ex (xTup [(xVar 2), (xVar 4)]), .ex (xPrim pIx [.nm 0, .ex (xLit (.int 1))])]) (xPrim pIn [.ex (xTup [(xVar 4), (xVar 2)]), .ex (xPrim pIx [.nm 0, .ex (xLit (.int 1))])]))) <|
        sPutI 1 (.ex (xTup [(xVar 2), (xVar 4)])) (xIf (tCmp (xPrim pEq [.nm 2, .nm 4])) (xLit (.int 0)) (xIf (tVal (.nm 5)) (xLit (.int 1)) (xLit (.int 99))))))
    PyData.str ns (fun as e => ∃ (v2 v4 v5 : Option (Bool × D)), e = [some (false, net ns es), some (true, tabP (as.flatMap fun a => ns.map fun b => (a, b)) (f0 es)), v2, none, v4, v5, none])
    [some (false, net ns es), some (true, .dict []), none, none, none, none, none] ⟨none, none, none, rfl⟩ ?_
  · obtain ⟨e1, q1, v2, v4, v5, rfl⟩ := loop1
    have loop2 := for_fold (tg := .nm 3) (b := sFor (.val (xPrim pIx [.nm 0, .ex (xLit (.int 0))])) (.nm 2) (sFor (.val (xPrim pIx [.nm 0, .ex (xLit (.int 0))])) (.nm 4) (
          sSeq (sAsg 6 (xPrim pAdd [.ex (xPrim pIx [.nm 1, .ex (xTup [(xVar 2), (xVar 3)])]), .ex (xPrim pIx [.nm 1, .ex (xTup [(xVar 3), (xVar 4)])])])) <|
          sPutI 1 (.ex (xTup [(xVar 2), (xVar 4)])) (xPrim pMin2 [.ex (xPrim pIx [.nm 1, .ex (xTup [(xVar 2), (xVar 4)])]), .nm 6]))))
      PyData.str (fun (f : F2) e => ∃ (v2 v3 v4 v5 v6 : Option (Bool × D)), e = [some (false, net ns es), some (true, tabD ns f), v2, v3, v4, v5, v6]) (relaxM ns) ns (f0 es)
      [some (false, net ns es), some (true, tabD ns (f0 es)), v2, none, v4, v5, none] ⟨_, _, _, _, _, rfl⟩ ?_
    · obtain ⟨e2, q2, w2, w3, w4, w5, w6, rfl⟩ := loop2
      have d0 : xDict [] [some (false, net ns es), none, none, none, none, none, none] = .ok (.dict [], true) [some (false, net ns es), none, none, none, none, none, none] := rfl
      tm_run
      rw [d0]
      tm_run
      rw [q1]
      tm_run
      erw [q2]
      tm_run
      rfl
    · rintro f e m hm ⟨v2, v3, v4, v5, v6, rfl⟩
      have loop3 := for_fold (tg := .nm 2) (b := sFor (.val (xPrim pIx [.nm 0, .ex (xLit (.int 0))])) (.nm 4) (
          sSeq (sAsg 6 (xPrim pAdd [.ex (xPrim pIx [.nm 1, .ex (xTup [(xVar 2), (xVar 3)])]), .ex (xPrim pIx [.nm 1, .ex (xTup [(xVar 3), (xVar 4)])])])) <|
          sPutI 1 (.ex (xTup [(xVar 2), (xVar 4)])) (xPrim pMin2 [.ex (xPrim pIx [.nm 1, .ex (xTup [(xVar 2), (xVar 4)])]), .nm 6])))
        PyData.str (fun (f : F2) e => ∃ (v2 v4 v5 v6 : Option (Bool × D)), e = [some (false, net ns es), some (true, tabD ns f), v2, some (false, .str m), v4, v5, v6]) (relaxA ns m) ns f
        [some (false, net ns es), some (true, tabD ns f), v2, some (false, .str m), v4, v5, v6] ⟨_, _, _, _, rfl⟩ ?_
      · obtain ⟨e3, q3, w2, w4, w5, w6, rfl⟩ := loop3
        exact ⟨_, by
          tm_run
          exact q3, _, _, _, _, _, rfl⟩
      · rintro f e a ha ⟨v2, v4, v5, v6, rfl⟩
        have loop4 := for_fold (tg := .nm 4) (b := sSeq (sAsg 6 (xPrim pAdd [.ex (xPrim pIx [.nm 1, .ex (xTup [(xVar 2), (xVar 3)])]), .ex (xPrim pIx [.nm 1, .ex (xTup [(xVar 3), (xVar 4)])])])) <|
          sPutI 1 (.ex (xTup [(xVar 2), (xVar 4)])) (xPrim pMin2 [.ex (xPrim pIx [.nm 1, .ex (xTup [(xVar 2), (xVar 4)])]), .nm 6]))
          PyData.str (fun (f : F2) e => ∃ (v4 v5 v6 : Option (Bool × D)), e = [some (false, net ns es), some (true, tabD ns f), some (false, .str a), some (false, .str m), v4, v5, v6]) (relax m a) ns f
          [some (false, net ns es), some (true, tabD ns f), some (false, .str a), some (false, .str m), v4, v5, v6] ⟨_, _, _, rfl⟩ ?_
        · obtain ⟨e3, q3, w4, w5, w6, rfl⟩ := loop4
          exact ⟨_, by
            tm_run
            exact q3, _, _, _, _, rfl⟩
        · rintro f e b hb ⟨v4, v5, v6, rfl⟩
          exact ⟨_, table_relax hl hm ha hb f v4 v5 v6, _, _, _, rfl⟩
  · rintro as a zs e hx ⟨v2, v4, v5, rfl⟩
    have an : a ∉ as := by
      intro hb
      rw [hx, List.nodup_append] at nd
      exact nd.2.2 a hb a List.mem_cons_self rfl
    have al : as.length ≤ 8 := by
      have : ns.length = as.length + (zs.length + 1) := by rw [hx]; simp
      omega
    have pl : (as.flatMap fun a => ns.map fun b => (a, b)).length ≤ 64 := by
      rw [List.length_flatMap]
      simp only [List.length_map]
      have go : ∀ (xs : List Str) (c : Nat), (xs.map fun _ => c).sum = xs.length * c := by
        intro xs c
        induction xs with
        | nil => simp
        | cons x xs ih => simp [ih, Nat.add_mul]; omega
      rw [go]
      exact Nat.mul_le_mul al hl
    obtain ⟨v4', v5', q⟩ := table_row (es := es) nd hl a (as.flatMap fun a => ns.map fun b => (a, b)) (fun b hb => by
      simp only [List.mem_flatMap, List.mem_map] at hb
      obtain ⟨c, hc, d, _, e⟩ := hb
      cases e
      exact an hc) pl v4 v5
    refine ⟨[some (false, net ns es), some (true, tabP ((as ++ [a]).flatMap fun a => ns.map fun b => (a, b)) (f0 es)), some (false, .str a), none, v4', v5', none], ?_, _, _, _, rfl⟩
    tm_run
    rw [q]
    simp

/-! ### comprehensions that freeze what they read -/
theorem lc_goE {α : Type} {own : List Nat} {tg : Tg} {ts : List T} {elt : X} (E : En → Prop) (enc : α → D) (f : α → Option D) : ∀ (xs : List α) (acc : List D) (e : En), E e → (∀ x ∈ xs, ∀ e1, E e1 → ∃ e2, E e2 ∧ lcOne own tg ts elt (enc x) e1 = .ok (f x) e2) → acc.length + xs.length ≤ sizeLine →
    ∃ e2, E e2 ∧ lcGo own tg ts elt (xs.map enc) acc e = .ok (acc ++ xs.filterMap f) e2
  | [], acc, e, he, _, _ => ⟨e, he, by simp [lcGo]⟩
  | x :: xs, acc, e, he, h, hl => by
    simp only [List.length_cons] at hl
    obtain ⟨e2, he2, h1⟩ := h x List.mem_cons_self e he
    obtain ⟨e1, h3, h4⟩ := lc_turn h1 acc (by omega)
    have hf : (f x).toList.length ≤ 1 := by cases f x <;> simp
    obtain ⟨e3, he3, h5⟩ := lc_goE E enc f xs (acc ++ (f x).toList) e2 he2 (fun y hy => h y (List.mem_cons_of_mem _ hy)) (by rw [List.length_append]; omega)
    refine ⟨e3, he3, ?_⟩
    simp only [List.map_cons, lcGo, h3, Re.bind_ok, h4, h5]
    congr 1
    cases q : f x <;> simp [List.filterMap_cons, q]
theorem lcE {α : Type} (E : En → Prop) (enc : α → D) (xs : List α) (p : α → Bool) (g : α → D) {own : List Nat} {it : It} {tg : Tg} {ts : List T} {elt : X} {e e0 : En} (hi : it.ev e = .ok (xs.map enc) e0) (he : E e0) (hz : own.all (frozenAt e0) = true ∧ wipeE e0 own = e0) (hb : ∀ e1, E e1 → backE e0 e1 own = e1)
    (ht : ∀ x ∈ xs, ∀ e1, E e1 → ∃ e2, E e2 ∧ lcOne own tg ts elt (enc x) e1 = .ok (if p x then some (g x) else none) e2) (hl : xs.length ≤ sizeLine) : ∃ e2, E e2 ∧ xLc own it tg ts elt e = .ok (.list ((xs.filter p).map g), true) e2 := by
  obtain ⟨e2, he2, h⟩ := lc_goE E enc _ xs [] e0 he ht (by simpa using hl)
  refine ⟨e2, he2, ?_⟩
  unfold xLc
  rw [hi]
  simp only [Re.bind_ok, hz.1, if_true]
  rw [hz.2, h]
  simp [hb e2 he2, filterMap_if]
theorem lcmE {α : Type} (E : En → Prop) (enc : α → D) (xs : List α) (g : α → D) {own : List Nat} {it : It} {tg : Tg} {ts : List T} {elt : X} {e e0 : En} (hi : it.ev e = .ok (xs.map enc) e0) (he : E e0) (hz : own.all (frozenAt e0) = true ∧ wipeE e0 own = e0) (hb : ∀ e1, E e1 → backE e0 e1 own = e1)
    (ht : ∀ x ∈ xs, ∀ e1, E e1 → ∃ e2, E e2 ∧ lcOne own tg ts elt (enc x) e1 = .ok (some (g x)) e2) (hl : xs.length ≤ sizeLine) : ∃ e2, E e2 ∧ xLc own it tg ts elt e = .ok (.list (xs.map g), true) e2 := by
  obtain ⟨e2, h1, h2⟩ := lcE E enc xs (fun _ => true) g hi he hz hb (fun x hx e1 h1 => by
    obtain ⟨e2, q1, q2⟩ := ht x hx e1 h1
    exact ⟨e2, q1, by rw [q2]; rfl⟩) hl
  rw [List.filter_eq_self.mpr (fun _ _ => rfl)] at h2
  exact ⟨e2, h1, h2⟩
/-! ### dicts that are built by a comprehension -/
def kDcV (k : D) (v : D × Bool) (e : En) : Re (D × D) := .ok (k, v.1) e
def kDcK (vx : X) (k : D × Bool) (e : En) : Re (D × D) := (vx e).bind (kDcV k.1)
def dcOne (own : List Nat) (tg : Tg) (kx vx : X) (d : D) (e : En) : Re (D × D) := match tg.put d e with
  | none => .bad
  | some e1 => wipeR own ((kx e1).bind (kDcK vx))
theorem dc_turn {own : List Nat} {tg : Tg} {kx vx : X} {d : D} {e e0 : En} {p : D × D} (h : dcOne own tg kx vx d e = .ok p e0) (acc : List (D × D)) (hk : flatK p.1 = true) (ha : acc.length < sizeLine) (hf : (acc.all fun p => flatK p.1) = true) :
    ∃ e1, dcTurn own tg kx vx d acc e = .ok (dPut acc p.1 p.2) e1 ∧ wipeE e1 own = e0 := by
  unfold dcOne at h
  unfold dcTurn
  cases q : tg.put d e with
  | none => rw [q] at h; cases h
  | some e1 =>
    rw [q] at h
    simp only at h ⊢
    cases q2 : kx e1 with
    | ok k e2 =>
      rw [q2] at h
      simp only [Re.bind_ok, kDcK] at h ⊢
      cases q3 : vx e2 with
      | ok v e3 =>
        rw [q3] at h
        simp only [Re.bind_ok, kDcV, wipeR] at h ⊢
        cases h
        simp only at hk
        exact ⟨e3, by simp [hk, ha, hf, Re.calm], rfl⟩
      | exc c e3 => rw [q3] at h; cases h
      | bad => rw [q3] at h; cases h
    | exc c e2 => rw [q2] at h; cases h
    | bad => rw [q2] at h; cases h
theorem dc_go {α β : Type} {own : List Nat} {tg : Tg} {kx vx : X} {e : En} (enc : α → D) (kf : α → Str) (vf : α → β) (ve : β → D) : ∀ (xs : List α) (S : List (Str × β)), (∀ x ∈ xs, dcOne own tg kx vx (enc x) e = .ok (.str (kf x), ve (vf x)) e) → (S.map (·.1) ++ xs.map kf).Nodup → S.length + xs.length ≤ sizeLine →
    dcGo own tg kx vx (xs.map enc) (S.map (kv .str ve)) e = .ok ((S ++ xs.map fun x => (kf x, vf x)).map (kv .str ve)) e
  | [], S, _, _, _ => by simp [dcGo]
  | x :: xs, S, h, nd, hl => by
    simp only [List.length_cons] at hl
    have flat : ((S.map (kv .str ve)).all fun p => flatK p.1) = true := by simp [kv, flatK]
    obtain ⟨e1, h1, h2⟩ := dc_turn (h x List.mem_cons_self) (S.map (kv .str ve)) rfl (by rw [List.length_map]; omega) flat
    have hn : kf x ∉ S.map (·.1) := by
      rw [List.map_cons, List.nodup_append] at nd
      exact fun q => nd.2.2 _ q _ List.mem_cons_self rfl
    have put : dPut (S.map (kv .str ve)) (.str (kf x)) (ve (vf x)) = (S ++ [(kf x, vf x)]).map (kv .str ve) := dPut_new key_str S _ _ hn
    simp only [List.map_cons, dcGo, h1, Re.bind_ok, h2, put]
    rw [dc_go enc kf vf ve xs (S ++ [(kf x, vf x)]) (fun y hy => h y (List.mem_cons_of_mem _ hy)) (by simpa using nd) (by rw [List.length_append]; simp; omega)]
    simp
theorem dcm {α β : Type} (enc : α → D) (xs : List α) (kf : α → Str) (vf : α → β) (ve : β → D) {own : List Nat} {it : It} {tg : Tg} {kx vx : X} {e : En} (hi : it.ev e = .ok (xs.map enc) e) (hz : LcOk own e)
    (ht : ∀ x ∈ xs, dcOne own tg kx vx (enc x) e = .ok (.str (kf x), ve (vf x)) e) (nd : (xs.map kf).Nodup) (hl : xs.length ≤ sizeLine) : xDc own it tg kx vx e = .ok (.dict ((xs.map fun x => (kf x, vf x)).map (kv .str ve)), true) e := by
  obtain ⟨h1, h2, h3⟩ := hz
  unfold xDc
  rw [hi]
  simp only [Re.bind_ok, h1, if_true]
  have g := dc_go enc kf vf ve xs [] ht (by simpa using nd) (by simpa using hl)
  simp only [List.map_nil, List.nil_append] at g
  rw [h2, g]
  simp [h3]
/-! ### the table of all steps -/
def tabE (ns : List Str) (es : Es) : D := .dict ((ns.map fun a => (a, a)).map (kv .str (stepsD es)))
theorem table_of_run {T : Nat → Str → Fn} [H : H_table_of T] (n : Nat) {ns : List Str} {es : Es} (h : Pre ns es) : T (n + 3) "table_of" [net ns es] = .ok (tabE ns es) true [] := by
  have nl := h.len
  rw [H.own_table_of (n + 2), fn_eq _ _ _ _ rfl]
  unfold b_table_of
  tm_run
  rw [dcm PyData.str ns (fun a => a) (fun a => a) (stepsD es)]
  · tm_run
    rfl
  · tm_run
  · exact ⟨rfl, rfl, rfl⟩
  · intro a ha
    unfold dcOne
    tm_run
    unfold kDcK kDcV
    tm_run
    rw [steps_run (T := T) n h ha]
    tm_run
  · rw [List.map_id']
    exact h.asc.nodup
  · rw [sizeLine_eq]; omega
theorem pIx_tabE {ns : List Str} {es : Es} {a : Str} (ha : a ∈ ns) : pIx [tabE ns es, .str a] = some (stepsD es a, false) := by
  refine pIx_dict key_str _ a a ?_
  have go : ∀ xs : List Str, a ∈ xs → look (xs.map fun x => (x, x)) a = some a := by
    intro xs
    induction xs with
    | nil => intro h; cases h
    | cons x xs ih =>
      intro h
      unfold look
      rw [List.map_cons, List.find?_cons]
      by_cases e : x = a
      · subst e; simp
      · simp only [e, decide_false]
        exact ih ((List.mem_cons.mp h).resolve_left fun q => e q.symm)
  exact go ns ha
/-- the separators of two nodes -/
noncomputable def sepP (ns : List Str) (es : Es) (p : Str × Str) : List Str := ns.filter fun x => !decide (dist es x p.1 = dist es x p.2)
theorem pNe_nat (x k : Nat) : pNe [nI x, nI k] = some (.bool (!decide (x = k)), false) := by
  rw [nI, nI, pNe_int]
  congr 4
  exact decide_eq_decide.mpr (by omega)
theorem parting_run {T : Nat → Str → Fn} [H : H_parting T] (n : Nat) {ns : List Str} {es : Es} (h : Net ns es) {a b : Str} (ha : a ∈ ns) (hb : b ∈ ns) : T (n + 1) "parting" [tabE ns es, sT ns, .str a, .str b] = .ok (sT (sepP ns es (a, b))) false [] := by
  have nl := h.len
  rw [H.own_parting n, fn_eq _ _ _ _ rfl]
  unfold b_parting
  tm_run
  rw [lc PyData.str ns (fun x => !decide (dist es x a = dist es x b)) (fun x => .str x)]
  · tm_run
    rfl
  · tm_run
  · exact ⟨rfl, rfl, rfl⟩
  · intro x hx
    have i1 := pIx_tabE (es := es) hx
    have i2 := pIx_steps h hx ha
    have i3 := pIx_steps h hx hb
    have e1 := pNe_nat (dist es x a) (dist es x b)
    tm_run
    rw [i1]
    tm_run
    rw [i2]
    tm_run
    rw [i1]
    tm_run
    rw [i3]
    tm_run
    rw [e1]
    tm_run
  · rw [sizeLine_eq]; omega
theorem sep_rows_run {T : Nat → Str → Fn} [H : H_separator_rows T] (n : Nat) {ns : List Str} {es : Es} (h : Net ns es) : T (n + 4) "separator_rows" [net ns es] = .ok (.list (((pairsP ns).map (sepP ns es)).map sT)) true [] := by
  have nl := h.len
  have pl := pairsP_len ns nl
  rw [H.own_separator_rows (n + 3), fn_eq _ _ _ _ rfl]
  unfold b_separator_rows
  tm_run
  rw [table_of_run (T := T) n h.toPre]
  tm_run
  generalize hq : xLc _ _ _ _ _ _ = r
  obtain ⟨e2, ⟨b, rfl⟩, rfl⟩ : ∃ e2, (∃ b, e2 = [some (false, net ns es), some (b, tabE ns es), none, none]) ∧ r = .ok (.list (((pairsP ns).map (sepP ns es)).map sT), true) e2 := by
    rw [← hq, List.map_map]
    refine lcmE (fun e => ∃ b, e = [some (false, net ns es), some (b, tabE ns es), none, none]) pr (pairsP ns) (fun p => sT (sepP ns es p)) (e0 := [some (false, net ns es), some (true, tabE ns es), none, none]) ?_ ⟨_, rfl⟩ ⟨rfl, rfl⟩ ?_ ?_ ?_
    · tm_run
      rw [pairs_run (T := T) (n + 2) ns nl]
      tm_run
    · rintro e1 ⟨b, rfl⟩
      rfl
    · rintro p hp e1 ⟨b, rfl⟩
      obtain ⟨h1, h2, _⟩ := (pairsP_mem h.asc).mp (show (p.1, p.2) ∈ pairsP ns from hp)
      refine ⟨_, ⟨false, rfl⟩, ?_⟩
      unfold pr
      tm_run
      rw [parting_run (T := T) (n + 2) h h1 h2]
      tm_run
    · rw [sizeLine_eq]; omega
  tm_run

/-! ### the law's own sameness -/
mutual
/-- no list, no dict within -/
def tupD : D → Bool
  | .none | .bool _ | .int _ | .str _ => true
  | .tuple xs => tupAll xs
  | .list _ | .dict _ => false
def tupAll : List D → Bool
  | [] => true
  | x :: xs => tupD x && tupAll xs
end
theorem tupAll_iff : ∀ xs : List D, tupAll xs = true ↔ ∀ x ∈ xs, tupD x = true
  | [] => by simp [tupAll]
  | x :: xs => by simp [tupAll, tupAll_iff xs]
theorem zipD_self : ∀ xs : List D, zipD xs xs = xs.map fun x => .tuple [x, x]
  | [] => by simp [zipD]
  | x :: xs => by simp [zipD, zipD_self xs]
theorem same_refl {T : Nat → Str → Fn} [H : H__law_same T] : ∀ (k : Nat) (d : D), tupD d = true → okD d = true → d.depth ≤ k → ∀ n, T (n + k + 1) "_law_same" [d, d] = .ok (.bool true) false [] := by
  intro k
  induction k with
  | zero =>
    intro d ht ok hd n
    have hp := ok_plain d ok
    rw [H.own__law_same (n + 0), fn_eq _ _ _ _ rfl]
    unfold b__law_same
    cases d with
    | tuple xs => rw [depth_tuple] at hd; omega
    | list xs => rw [tupD] at ht; cases ht
    | dict xs => rw [tupD] at ht; cases ht
    | none => tm_run
    | bool b => tm_run
    | int i => tm_run
    | str s => tm_run
  | succ k ih =>
    intro d ht ok hd n
    have hp := ok_plain d ok
    show T (n + k + 1 + 1) "_law_same" [d, d] = _
    rw [H.own__law_same (n + k + 1), fn_eq _ _ _ _ rfl]
    unfold b__law_same
    cases d with
    | tuple xs =>
      obtain ⟨hl, hok⟩ := ok_tuple.mp ok
      rw [tupD, tupAll_iff] at ht
      rw [depth_tuple] at hd
      have dd : ∀ x ∈ xs, x.depth ≤ k := fun x hx => by
        have : ∀ (ys : List D), x ∈ ys → x.depth ≤ PyData.depthAll ys := by
          intro ys
          induction ys with
          | nil => intro h; cases h
          | cons y ys ih =>
            intro h
            rw [depthAll_cons]
            rcases List.mem_cons.mp h with rfl | h
            · omega
            · have := ih h
              omega
        have := this xs hx
        omega
      tm_run
      rw [lcm (fun x : D => .tuple [x, x]) xs (fun _ => .bool true)]
      · tm_run
        simp
      · tm_run
        rw [zipD_self]
      · exact ⟨rfl, rfl, rfl⟩
      · intro x hx
        tm_run
        rw [ih x (ht x hx) (hok x hx) (dd x hx) n]
        tm_run
      · rw [sizeLine_eq]; omega
    | list xs => rw [tupD] at ht; cases ht
    | dict xs => rw [tupD] at ht; cases ht
    | none => tm_run
    | bool b => tm_run
    | int i => tm_run
    | str s => tm_run
theorem same_sT {T : Nat → Str → Fn} [H : H__law_same T] (n : Nat) {ns : List Str} (h : okD (sT ns) = true) : T (n + 2) "_law_same" [sT ns, sT ns] = .ok (.bool true) false [] := same_refl 1 (sT ns) (by
  rw [tupD, tupAll_iff]
  intro x hx
  obtain ⟨a, _, rfl⟩ := List.mem_map.mp hx
  rfl) h (sT_depth ns) n
theorem same_ints {T : Nat → Str → Fn} [H : H__law_same T] {α : Type} (f : α → Nat) (n : Nat) (xs : List α) (hl : xs.length ≤ 1000) : T (n + 2) "_law_same" [.tuple (xs.map fun x => nI (f x)), .tuple (xs.map fun x => nI (f x))] = .ok (.bool true) false [] := same_refl 1 _ (by
  rw [tupD, tupAll_iff]
  intro x hx
  obtain ⟨a, _, rfl⟩ := List.mem_map.mp hx
  rfl) (by
  rw [ok_tuple]
  refine ⟨by simpa using hl, fun x hx => ?_⟩
  obtain ⟨a, _, rfl⟩ := List.mem_map.mp hx
  rfl) (by
  rw [depth_tuple]
  have := depthAll_map_le (fun x => nI (f x)) (n := 0) (fun a => by rw [nI, depth_int]; omega) xs
  omega) n

/-! ### greatest and least of numbers -/
def mx (xs : List Nat) : Nat := xs.foldl max 0
theorem mx_fold : ∀ (xs : List Nat) (a : Nat), xs.foldl max a = max a (mx xs)
  | [], a => by simp [mx]
  | x :: xs, a => by
    have h1 := mx_fold xs (max a x)
    have h2 := mx_fold xs (max 0 x)
    simp only [mx, List.foldl_cons] at *
    rw [h1, h2]
    omega
theorem mx_cons (x : Nat) (xs : List Nat) : mx (x :: xs) = max x (mx xs) := by
  have := mx_fold xs x
  simp only [mx, List.foldl_cons, Nat.zero_max] at *
  exact this
theorem mx_le {k : Nat} : ∀ {xs : List Nat}, mx xs ≤ k ↔ ∀ x ∈ xs, x ≤ k
  | [] => by simp [mx]
  | x :: xs => by
    rw [mx_cons, Nat.max_le, mx_le (xs := xs)]
    simp
theorem mx_ge {xs : List Nat} {x : Nat} (h : x ∈ xs) : x ≤ mx xs := mx_le.mp (Nat.le_refl _) x h
theorem mx_mem : ∀ {xs : List Nat}, xs ≠ [] → mx xs ∈ xs
  | [], h => absurd rfl h
  | [x], _ => by simp [mx_cons, mx]
  | x :: y :: xs, _ => by
    have := mx_mem (xs := y :: xs) (by simp)
    rw [mx_cons]
    rcases Nat.le_total x (mx (y :: xs)) with q | q
    · rw [Nat.max_eq_right q]; exact List.mem_cons_of_mem _ this
    · rw [Nat.max_eq_left q]; exact List.mem_cons_self
def mn (xs : List Nat) : Nat := match xs with
  | [] => 0
  | x :: xs => xs.foldl min x
theorem mn_cons2 (x y : Nat) (xs : List Nat) : mn (x :: y :: xs) = min x (mn (y :: xs)) := by
  have go : ∀ (xs : List Nat) (a b : Nat), xs.foldl min (min a b) = min a (xs.foldl min b) := by
    intro xs
    induction xs with
    | nil => intro a b; rfl
    | cons z xs ih => intro a b; simp only [List.foldl_cons]; rw [Nat.min_assoc, ih]
  simp only [mn, List.foldl_cons]
  exact go xs x y
theorem le_mn {k : Nat} : ∀ {xs : List Nat}, xs ≠ [] → (k ≤ mn xs ↔ ∀ x ∈ xs, k ≤ x)
  | [], h => absurd rfl h
  | [x], _ => by simp [mn]
  | x :: y :: xs, _ => by
    rw [mn_cons2, Nat.le_min, le_mn (xs := y :: xs) (by simp)]
    simp
theorem mn_mem : ∀ {xs : List Nat}, xs ≠ [] → mn xs ∈ xs
  | [], h => absurd rfl h
  | [x], _ => by simp [mn]
  | x :: y :: xs, _ => by
    have := mn_mem (xs := y :: xs) (by simp)
    rw [mn_cons2]
    rcases Nat.le_total x (mn (y :: xs)) with q | q
    · rw [Nat.min_eq_left q]; exact List.mem_cons_self
    · rw [Nat.min_eq_right q]; exact List.mem_cons_of_mem _ this
theorem intsOf_nI : ∀ xs : List Nat, intsOf (xs.map nI) = some (xs.map Int.ofNat)
  | [] => rfl
  | x :: xs => by
    have ih := intsOf_nI xs
    simp only [List.map_cons]
    rw [show nI x = .int (Int.ofNat x) from rfl, intsOf, ih]
    rfl
theorem imax_fold : ∀ (xs : List Nat) (a : Nat), (xs.map Int.ofNat).foldl max (Int.ofNat a) = Int.ofNat (xs.foldl max a)
  | [], _ => rfl
  | x :: xs, a => by
    simp only [List.map_cons, List.foldl_cons]
    rw [show max (Int.ofNat a) (Int.ofNat x) = Int.ofNat (max a x) by simp only [Int.ofNat_eq_natCast]; omega, imax_fold xs]
theorem imin_fold : ∀ (xs : List Nat) (a : Nat), (xs.map Int.ofNat).foldl min (Int.ofNat a) = Int.ofNat (xs.foldl min a)
  | [], _ => rfl
  | x :: xs, a => by
    simp only [List.map_cons, List.foldl_cons]
    rw [show min (Int.ofNat a) (Int.ofNat x) = Int.ofNat (min a x) by simp only [Int.ofNat_eq_natCast]; omega, imin_fold xs]
theorem pMax1_L {xs : List Nat} (h : xs ≠ []) : pMax1 [.list (xs.map nI)] = some (nI (mx xs), false) := by
  cases xs with
  | nil => exact absurd rfl h
  | cons x xs =>
    have e : mx (x :: xs) = xs.foldl max x := by simp [mx]
    rw [e]
    simp only [pMax1]
    rw [intsOf_nI, List.map_cons]
    simp only [imax_fold]
    rfl
theorem pMax1_T {xs : List Nat} (h : xs ≠ []) : pMax1 [.tuple (xs.map nI)] = some (nI (mx xs), false) := pMax1_L h
theorem pMin1_L {xs : List Nat} (h : xs ≠ []) : pMin1 [.list (xs.map nI)] = some (nI (mn xs), false) := by
  cases xs with
  | nil => exact absurd rfl h
  | cons x xs =>
    simp only [pMin1]
    rw [intsOf_nI, List.map_cons]
    simp only [imin_fold]
    rfl
theorem map_nI {α : Type} (f : α → Nat) (xs : List α) : xs.map (fun x => nI (f x)) = (xs.map f).map nI := by rw [List.map_map]; rfl
theorem pLe_nI (x k : Nat) : pLe [nI x, nI k] = some (.bool (decide (x ≤ k)), false) := by
  rw [nI, nI, pLe_int]
  congr 3
  exact decide_eq_decide.mpr (by omega)
theorem pEq_nat (x k : Nat) : pEq [nI x, nI k] = some (.bool (decide (x = k)), false) := by
  rw [nI, nI, pEq_int]
  congr 3
  exact decide_eq_decide.mpr (by omega)
theorem pLt_nI (x k : Nat) : pLt [nI x, nI k] = some (.bool (decide (x < k)), false) := by
  rw [nI, nI, pLt_int]
  congr 3
  exact decide_eq_decide.mpr (by omega)
theorem pGe_nI (x k : Nat) : pGe [nI x, nI k] = some (.bool (decide (k ≤ x)), false) := by
  rw [nI, nI, pGe_int]
  congr 3
  exact decide_eq_decide.mpr (by omega)
theorem pGt_nI (x k : Nat) : pGt [nI x, nI k] = some (.bool (decide (k < x)), false) := by
  rw [nI, nI, pGt_int]
  congr 3
  exact decide_eq_decide.mpr (by omega)
/-! ### edges at a node -/
theorem pIn_pr (a : Str) (p : Str × Str) : pIn [.str a, pr p] = some (.bool (decide (a = p.1) || decide (a = p.2)), false) := by
  have := pIn_sT a [p.1, p.2]
  simp only [List.map_cons, List.map_nil] at this
  rw [pr, this]
  congr 3
  rw [Bool.eq_iff_iff]
  simp
theorem pNin_pr (a : Str) (p : Str × Str) : pNin [.str a, pr p] = some (.bool (!(decide (a = p.1) || decide (a = p.2))), false) := by
  have := pNin_sT a [p.1, p.2]
  simp only [List.map_cons, List.map_nil] at this
  rw [pr, this]
  congr 4
  rw [Bool.eq_iff_iff]
  simp
theorem count_or {α : Type} (p q : α → Bool) : ∀ xs : List α, (∀ x ∈ xs, ¬ (p x = true ∧ q x = true)) → (xs.filter fun x => p x || q x).length = (xs.filter p).length + (xs.filter q).length
  | [], _ => rfl
  | x :: xs, h => by
    have ih := count_or p q xs fun y hy => h y (List.mem_cons_of_mem _ hy)
    have hx := h x List.mem_cons_self
    cases hp : p x <;> cases hq : q x
    · simp [hp, hq, ih]
    · simp [hp, hq, ih]; omega
    · simp [hp, hq, ih]; omega
    · exact absurd ⟨hp, hq⟩ hx
theorem Pre.deg {ns : List Str} {es : Es} (h : Pre ns es) (a : Str) : (es.filter fun p => decide (a = p.1) || decide (a = p.2)).length = (nbs ns es a).length := by
  rw [← h.besideN a, besideP, sortE_len, List.length_append, List.length_map, List.length_map, count_or]
  · rw [Nat.add_comm]
    congr 2
    · apply List.filter_congr
      intro p _
      exact decide_eq_decide.mpr eq_comm
    · apply List.filter_congr
      intro p _
      exact decide_eq_decide.mpr eq_comm
  · rintro p hp ⟨q1, q2⟩
    rw [decide_eq_true_eq] at q1 q2
    have := nlt_ne (h.mem p hp).2.2
    exact this (q1.symm.trans q2)

/-! ### paths and rings -/
theorem ord2_inj {a b c d : Str} (h : ord2 a b = ord2 c d) : (a = c ∧ b = d) ∨ (a = d ∧ b = c) := by
  unfold ord2 at h
  split at h <;> split at h <;> simp only [Prod.mk.injEq] at h
  · exact .inl h
  · exact .inr ⟨h.1, h.2⟩
  · exact .inr ⟨h.2, h.1⟩
  · exact .inl ⟨h.2, h.1⟩
def chain : List Str → Es
  | x :: y :: zs => ord2 x y :: chain (y :: zs)
  | _ => []
theorem chain_zip : ∀ ord : List Str, (ord.zip (ord.drop 1)).map (fun p => ord2 p.1 p.2) = chain ord
  | [] => rfl
  | [x] => rfl
  | x :: y :: zs => by
    have ih := chain_zip (y :: zs)
    simp only [List.drop_succ_cons, List.drop_zero, List.zip_cons_cons, List.map_cons, chain] at *
    rw [ih]
theorem chain_in : ∀ {ord : List Str} {p : Str × Str}, p ∈ chain ord → ∃ x y, x ∈ ord ∧ y ∈ ord ∧ p = ord2 x y ∧ (ord.Nodup → x ≠ y)
  | [], p, h => by simp [chain] at h
  | [x], p, h => by simp [chain] at h
  | x :: y :: zs, p, h => by
    rw [chain, List.mem_cons] at h
    rcases h with rfl | h
    · refine ⟨x, y, by simp, by simp, rfl, fun nd e => ?_⟩
      rw [List.nodup_cons] at nd
      exact nd.1 (by rw [e]; simp)
    · obtain ⟨a, b, h1, h2, h3, h4⟩ := chain_in (ord := y :: zs) h
      exact ⟨a, b, List.mem_cons_of_mem _ h1, List.mem_cons_of_mem _ h2, h3, fun nd => h4 (List.nodup_cons.mp nd).2⟩
theorem chain_nodup : ∀ {ord : List Str}, ord.Nodup → (chain ord).Nodup
  | [], _ => by simp [chain]
  | [x], _ => by simp [chain]
  | x :: y :: zs, nd => by
    rw [chain, List.nodup_cons]
    refine ⟨fun q => ?_, chain_nodup (List.nodup_cons.mp nd).2⟩
    obtain ⟨a, b, h1, h2, h3, _⟩ := chain_in q
    have hx := (List.nodup_cons.mp nd).1
    rcases ord2_inj h3 with ⟨e, _⟩ | ⟨e, _⟩
    · exact hx (e ▸ h1)
    · exact hx (e ▸ h2)
theorem chain_at : ∀ {ord : List Str} (k : Nat) {a b : Str}, ord[k]? = some a → ord[k + 1]? = some b → ord2 a b ∈ chain ord
  | [], k, a, b, h, _ => by simp at h
  | [x], k, a, b, _, h => by simp at h
  | x :: y :: zs, 0, a, b, h1, h2 => by
    simp only [List.getElem?_cons_zero, Option.some.injEq, Nat.zero_add, List.getElem?_cons_succ] at h1 h2
    rw [← h1, ← h2, chain]
    exact List.mem_cons_self
  | x :: y :: zs, k + 1, a, b, h1, h2 => by
    rw [List.getElem?_cons_succ] at h1 h2
    rw [chain]
    exact List.mem_cons_of_mem _ (chain_at k h1 h2)
theorem chain_tied (ord : List Str) {F : Es} (hF : ∀ p ∈ chain ord, p ∈ F) : Tied F ord ord.length := by
  intro i
  induction i with
  | zero =>
    intro a b _ h1 h2
    rw [h1] at h2
    cases h2
    exact ⟨0, .nil _⟩
  | succ i ih =>
    intro a b hi h1 h2
    obtain ⟨c, hc⟩ : ∃ c, ord[i]? = some c := ⟨ord[i], List.getElem?_eq_getElem (by omega)⟩
    obtain ⟨l, w⟩ := ih c b (by omega) hc h2
    refine ⟨l + 1, w.snoc ?_⟩
    have m := hF _ (chain_at i hc h1)
    rw [adj_iff]
    unfold ord2 at m
    split at m
    · exact .inl m
    · exact .inr m
theorem chain_edges {ns ord : List Str} (hp : ord.Perm ns) (nd : ord.Nodup) : EdgesIn ns (chain ord) := by
  intro p hq
  obtain ⟨x, y, hx, hy, rfl, ne⟩ := chain_in hq
  have m := ord2_mem (hp.mem_iff.mp hx) (hp.mem_iff.mp hy)
  exact ⟨m.1, m.2, ord2_lt (ne nd)⟩
theorem net_perm {ns ord : List Str} {E : Es} (hn : NamesP ns) (hp : ord.Perm ns) (he : EdgesIn ns E) (nd : E.Nodup) (ht : Tied E ord ord.length) : Net ns (sortE pr E) := by
  have := net_of hn hp he ht
  rwa [ddp_self nd] at this
theorem net_path {ns ord : List Str} (hn : NamesP ns) (hp : ord.Perm ns) : Net ns (sortE pr (chain ord)) :=
  have nd : ord.Nodup := hp.nodup_iff.mpr hn.1.nodup
  net_perm hn hp (chain_edges hp nd) (chain_nodup nd) (chain_tied ord fun _ h => h)
def ring5 (ord : List Str) : Es := (ord.zip (ord.drop 1 ++ ord.take 1)).map fun p => ord2 p.1 p.2
theorem net_ring5 {ns ord : List Str} (hn : NamesP ns) (hp : ord.Perm ns) (hl : ord.length = 5) : Net ns (sortE pr (ring5 ord)) := by
  have nd : ord.Nodup := hp.nodup_iff.mpr hn.1.nodup
  match ord, hl with
  | [p, q, r, s, t], _ =>
    have e : ring5 [p, q, r, s, t] = chain [p, q, r, s, t] ++ [ord2 t p] := rfl
    simp only [List.nodup_cons, List.mem_cons, List.not_mem_nil, or_false, not_or, not_false_eq_true, List.nodup_nil, and_true] at nd
    obtain ⟨⟨pq, pr', ps, pt⟩, ⟨qr, qs, qt⟩, ⟨rs, rt⟩, st⟩ := nd
    have nd' : [p, q, r, s, t].Nodup := hp.nodup_iff.mpr hn.1.nodup
    rw [e]
    refine net_perm hn hp ?_ ?_ (chain_tied _ fun x h => List.mem_append_left _ h)
    · exact (chain_edges hp nd').snoc (hp.mem_iff.mp (by simp)) (hp.mem_iff.mp (by simp)) (fun h => pt h.symm)
    · rw [List.nodup_append]
      refine ⟨chain_nodup nd', by simp, ?_⟩
      intro a ha b hb e
      rw [List.mem_singleton] at hb
      subst hb
      subst e
      simp only [chain, List.mem_cons, List.not_mem_nil, or_false] at ha
      rcases ha with h | h | h | h
      · rcases ord2_inj h with ⟨h1, h2⟩ | ⟨h1, h2⟩
        · exact pt h1.symm
        · exact qt h1.symm
      · rcases ord2_inj h with ⟨h1, h2⟩ | ⟨h1, h2⟩
        · exact qt h1.symm
        · exact rt h1.symm
      · rcases ord2_inj h with ⟨h1, h2⟩ | ⟨h1, h2⟩
        · exact rt h1.symm
        · exact st h1.symm
      · rcases ord2_inj h with ⟨h1, h2⟩ | ⟨h1, h2⟩
        · exact st h1.symm
        · exact ps h2
/-! ### the greatest distance -/
noncomputable def diaP (ns : List Str) (es : Es) : Nat := mx (ns.map fun a => mx (ns.map fun b => dist es a b))
theorem diaP_all (ns : List Str) (es : Es) : mx ((allP ns).map fun p => dist es p.1 p.2) = diaP ns es := by
  apply Nat.le_antisymm
  · rw [mx_le]
    intro x hx
    obtain ⟨⟨a, b⟩, hp, rfl⟩ := List.mem_map.mp hx
    obtain ⟨ha, hb⟩ := allP_mem.mp hp
    exact Nat.le_trans (mx_ge (List.mem_map.mpr ⟨b, hb, rfl⟩)) (mx_ge (List.mem_map.mpr ⟨a, ha, rfl⟩))
  · unfold diaP
    rw [mx_le]
    intro x hx
    obtain ⟨a, ha, rfl⟩ := List.mem_map.mp hx
    rw [mx_le]
    intro x hx
    obtain ⟨b, hb, rfl⟩ := List.mem_map.mp hx
    exact mx_ge (List.mem_map.mpr ⟨(a, b), allP_mem.mpr ⟨ha, hb⟩, rfl⟩)
theorem diameter_run {T : Nat → Str → Fn} [H : H_diameter T] (n : Nat) {ns : List Str} {es : Es} (h : Net ns es) : T (n + 6) "diameter" [net ns es] = .ok (nI (diaP ns es)) false [] := by
  have nl := h.len
  have m1 : ns.map (fun a => mx (ns.map fun b => dist es a b)) ≠ [] := by simp [h.ne]
  have m2 : ∀ a, ns.map (fun b => dist es a b) ≠ [] := by intro a; simp [h.ne]
  rw [H.own_diameter (n + 5), fn_eq _ _ _ _ rfl]
  unfold b_diameter
  tm_run
  rw [req_ok (T := T) n h]
  tm_run
  rw [lcm PyData.str ns (fun a => nI (mx (ns.map fun b => dist es a b)))]
  · tm_run
    rw [map_nI, pMax1_L m1]
    tm_run
    rfl
  · tm_run
  · exact ⟨rfl, rfl, rfl⟩
  · intro a ha
    tm_run
    rw [row_run (T := T) (n + 2) h ha]
    tm_run
    rw [map_nI, pMax1_T (m2 a)]
    tm_run
  · rw [sizeLine_eq]; omega
theorem diameter_bad {T : Nat → Str → Fn} [H : H_diameter T] (n : Nat) {d : D} (ok : okD d = true) (h : isNetB d = false) : T (n + 6) "diameter" [d] = .exc "InvalidNetwork" := by
  rw [H.own_diameter (n + 5), fn_eq _ _ _ _ rfl]
  unfold b_diameter
  tm_run
  rw [req_bad (T := T) n ok h]
  tm_run
theorem is_tree_run {T : Nat → Str → Fn} [H : H_is_tree T] (n : Nat) {ns : List Str} {es : Es} (h : Net ns es) : T (n + 6) "is_tree" [net ns es] = .ok (.bool (treeB ns es)) false [] := by
  rw [H.own_is_tree (n + 5), fn_eq _ _ _ _ rfl]
  unfold b_is_tree
  tm_run
  rw [req_ok (T := T) n h]
  tm_run
  rw [has_tree_run (T := T) (n + 4) h.toPre]
  tm_run
theorem is_tree_bad {T : Nat → Str → Fn} [H : H_is_tree T] (n : Nat) {d : D} (ok : okD d = true) (h : isNetB d = false) : T (n + 6) "is_tree" [d] = .exc "InvalidNetwork" := by
  rw [H.own_is_tree (n + 5), fn_eq _ _ _ _ rfl]
  unfold b_is_tree
  tm_run
  rw [req_bad (T := T) n ok h]
  tm_run
theorem is_path_run {T : Nat → Str → Fn} [H : H_is_path T] (n : Nat) {ns : List Str} {es : Es} (h : Net ns es) : T (n + 6) "is_path" [net ns es] = .ok (.bool (pathB ns es)) false [] := by
  rw [H.own_is_path (n + 5), fn_eq _ _ _ _ rfl]
  unfold b_is_path
  tm_run
  rw [req_ok (T := T) n h]
  tm_run
  rw [has_path_run (T := T) (n + 3) h.toPre]
  tm_run
theorem is_path_bad {T : Nat → Str → Fn} [H : H_is_path T] (n : Nat) {d : D} (ok : okD d = true) (h : isNetB d = false) : T (n + 6) "is_path" [d] = .exc "InvalidNetwork" := by
  rw [H.own_is_path (n + 5), fn_eq _ _ _ _ rfl]
  unfold b_is_path
  tm_run
  rw [req_bad (T := T) n ok h]
  tm_run

/-! ### networks with an edge more or less -/
theorem Pre.withE {ns : List Str} {es E : Es} (h : Pre ns es) (nd : E.Nodup) (he : EdgesIn ns E) : Pre ns (sortE pr E) := ⟨h.asc, h.ne, h.len, h.name, sortE_asc pr_tot nd, fun p hp => he p (sortE_mem.mp hp)⟩
theorem Pre.edges {ns : List Str} {es : Es} (h : Pre ns es) : EdgesIn ns es := h.mem
theorem Pre.more {ns : List Str} {es : Es} (h : Pre ns es) {a b : Str} (ha : a ∈ ns) (hb : b ∈ ns) (ne : a ≠ b) (hn : ord2 a b ∉ es) : Pre ns (sortE pr (es ++ [ord2 a b])) := by
  refine h.withE ?_ (h.edges.snoc ha hb ne)
  rw [List.nodup_append]
  refine ⟨h.easc.nodup, by simp, fun x hx y hy e => ?_⟩
  rw [List.mem_singleton] at hy
  subst hy
  subst e
  exact hn hx
theorem Pre.less {ns : List Str} {es : Es} (h : Pre ns es) (p : Str × Str → Bool) : Pre ns (es.filter p) := ⟨h.asc, h.ne, h.len, h.name, h.easc.filter _, fun q hq => h.mem q (List.mem_filter.mp hq).1⟩
theorem sortE_adj {E : Es} (a b : Str) : adj (sortE pr E) a b = adj E a b := by
  rw [Bool.eq_iff_iff, adj_iff, adj_iff, sortE_mem, sortE_mem]
theorem Pre.tup {ns : List Str} {es : Es} (h : Pre ns es) : tupD (net ns es) = true := by
  rw [tupD, tupAll_iff]
  intro x hx
  simp only [List.mem_cons, List.not_mem_nil, or_false] at hx
  rcases hx with rfl | rfl
  · rw [sT, tupD, tupAll_iff]
    intro x hx
    obtain ⟨a, _, rfl⟩ := List.mem_map.mp hx
    rfl
  · rw [pT, tupD, tupAll_iff]
    intro x hx
    obtain ⟨a, _, rfl⟩ := List.mem_map.mp hx
    rfl
theorem net_depth (ns : List Str) (es : Es) : (net ns es).depth ≤ 3 := by
  rw [depth_tuple, depthAll_cons, depthAll_cons, depthAll_nil, depth_tuple, depth_tuple]
  have := depthAll_strs ns
  have := depthAll_prs es
  omega
theorem same_net {T : Nat → Str → Fn} [H : H__law_same T] (n : Nat) {ns : List Str} {es : Es} (h : Pre ns es) : T (n + 4) "_law_same" [net ns es, net ns es] = .ok (.bool true) false [] := same_refl 3 (net ns es) h.tup h.ok (net_depth ns es) n
theorem same_str {T : Nat → Str → Fn} [H : H__law_same T] (n : Nat) (s : Str) (h : s.length ≤ 1000) : T (n + 1) "_law_same" [.str s, .str s] = .ok (.bool true) false [] := same_refl 0 (.str s) rfl (ok_str.mpr h) (by rw [depth_str]; exact Nat.le_refl _) n
theorem edge_ok {T : Nat → Str → Fn} [H : H_edge_between T] (n : Nat) {ns : List Str} {es : Es} (h : Net ns es) {a b : Str} (ha : a ∈ ns) (hb : b ∈ ns) (ne : a ≠ b) : T (n + 6) "edge_between" [net ns es, .str a, .str b] = .ok (pr (ord2 a b)) false [] := by
  rw [H.own_edge_between (n + 5), fn_eq _ _ _ _ rfl]
  unfold b_edge_between
  tm_run
  rw [req_ok (T := T) n h]
  tm_run
  rw [node_ok (T := T) (n + 4) ha]
  tm_run
  rw [node_ok (T := T) (n + 4) hb]
  tm_run
  simp only [ne, decide_false]
  tm_run
  rfl
theorem edge_self {T : Nat → Str → Fn} [H : H_edge_between T] (n : Nat) {ns : List Str} {es : Es} (h : Net ns es) {a : Str} (ha : a ∈ ns) : T (n + 6) "edge_between" [net ns es, .str a, .str a] = .exc "InvalidEdge" := by
  rw [H.own_edge_between (n + 5), fn_eq _ _ _ _ rfl]
  unfold b_edge_between
  tm_run
  rw [req_ok (T := T) n h]
  tm_run
  rw [node_ok (T := T) (n + 4) ha]
  tm_run
  rw [node_ok (T := T) (n + 4) ha]
  tm_run
theorem edge_net {T : Nat → Str → Fn} [H : H_edge_between T] (n : Nat) {d x y : D} (ok : okD d = true) (h : isNetB d = false) : T (n + 6) "edge_between" [d, x, y] = .exc "InvalidNetwork" := by
  rw [H.own_edge_between (n + 5), fn_eq _ _ _ _ rfl]
  unfold b_edge_between
  tm_run
  rw [req_bad (T := T) n ok h]
  tm_run
theorem edge_one {T : Nat → Str → Fn} [H : H_edge_between T] (n : Nat) {ns : List Str} {es : Es} (h : Net ns es) {x y : D} (ok : okD x = true) (hx : isNodeB ns x = false) : T (n + 6) "edge_between" [net ns es, x, y] = .exc "InvalidNode" := by
  rw [H.own_edge_between (n + 5), fn_eq _ _ _ _ rfl]
  unfold b_edge_between
  tm_run
  rw [req_ok (T := T) n h]
  tm_run
  rw [node_bad (T := T) (n + 4) ok hx]
  tm_run
theorem edge_two {T : Nat → Str → Fn} [H : H_edge_between T] (n : Nat) {ns : List Str} {es : Es} (h : Net ns es) {a : Str} (ha : a ∈ ns) {y : D} (ok : okD y = true) (hx : isNodeB ns y = false) : T (n + 6) "edge_between" [net ns es, .str a, y] = .exc "InvalidNode" := by
  rw [H.own_edge_between (n + 5), fn_eq _ _ _ _ rfl]
  unfold b_edge_between
  tm_run
  rw [req_ok (T := T) n h]
  tm_run
  rw [node_ok (T := T) (n + 4) ha]
  tm_run
  rw [node_bad (T := T) (n + 4) ok hx]
  tm_run
theorem with_edge_ok {T : Nat → Str → Fn} [H : H_with_edge T] (n : Nat) {ns : List Str} {es : Es} (h : Net ns es) {a b : Str} (ha : a ∈ ns) (hb : b ∈ ns) (ne : a ≠ b) (hn : ord2 a b ∉ es) : T (n + 7) "with_edge" [net ns es, .str a, .str b] = .ok (net ns (sortE pr (es ++ [ord2 a b]))) false [] := by
  have el := h.elen
  rw [H.own_with_edge (n + 6), fn_eq _ _ _ _ rfl]
  unfold b_with_edge
  tm_run
  rw [edge_ok (T := T) n h ha hb ne]
  tm_run
  simp only [hn, decide_false]
  tm_run
  rw [map_snoc]
  tm_run
theorem with_edge_old {T : Nat → Str → Fn} [H : H_with_edge T] (n : Nat) {ns : List Str} {es : Es} (h : Net ns es) {a b : Str} (ha : a ∈ ns) (hb : b ∈ ns) (ne : a ≠ b) (hn : ord2 a b ∈ es) : T (n + 7) "with_edge" [net ns es, .str a, .str b] = .exc "InvalidEdge" := by
  rw [H.own_with_edge (n + 6), fn_eq _ _ _ _ rfl]
  unfold b_with_edge
  tm_run
  rw [edge_ok (T := T) n h ha hb ne]
  tm_run
  simp only [hn, decide_true]
  tm_run
/-- the same exception as edge_between's -/
theorem with_edge_exc {T : Nat → Str → Fn} [H : H_with_edge T] (n : Nat) {d x y : D} {c : Str} (h : T (n + 6) "edge_between" [d, x, y] = .exc c) : T (n + 7) "with_edge" [d, x, y] = .exc c := by
  rw [H.own_with_edge (n + 6), fn_eq _ _ _ _ rfl]
  unfold b_with_edge
  tm_run
  rw [h]
  tm_run
theorem without_edge_exc {T : Nat → Str → Fn} [H : H_without_edge T] (n : Nat) {d x y : D} {c : Str} (h : T (n + 6) "edge_between" [d, x, y] = .exc c) : T (n + 7) "without_edge" [d, x, y] = .exc c := by
  rw [H.own_without_edge (n + 6), fn_eq _ _ _ _ rfl]
  unfold b_without_edge
  tm_run
  rw [h]
  tm_run
theorem conn_ok {T : Nat → Str → Fn} [H : H_require_connected T] (n : Nat) {ns : List Str} {es : Es} (h : Pre ns es) (c : connB ns es = true) : T (n + 4) "require_connected" [net ns es] = .ok (net ns es) false [] := by
  rw [H.own_require_connected (n + 3), fn_eq _ _ _ _ rfl]
  unfold b_require_connected
  tm_run
  rw [connected_run (T := T) n h, c]
  tm_run
theorem conn_no {T : Nat → Str → Fn} [H : H_require_connected T] (n : Nat) {ns : List Str} {es : Es} (h : Pre ns es) (c : connB ns es = false) : T (n + 4) "require_connected" [net ns es] = .exc "Disconnected" := by
  rw [H.own_require_connected (n + 3), fn_eq _ _ _ _ rfl]
  unfold b_require_connected
  tm_run
  rw [connected_run (T := T) n h, c]
  tm_run
abbrev lessE (es : Es) (p : Str × Str) : Es := es.filter fun q => !decide (q = p)
theorem pNe_pr (p q : Str × Str) : pNe [pr p, pr q] = some (.bool (!decide (p = q)), false) := by
  rw [pNe_eq _ _ (pr_plain p) (pr_plain q) (by have := pr_depth p; omega), eqv_pr]
theorem pEq_pr (p q : Str × Str) : pEq [pr p, pr q] = some (.bool (decide (p = q)), false) := by
  rw [pEq_eq _ _ (pr_plain p) (pr_plain q) (by have := pr_depth p; omega), eqv_pr]
theorem without_edge_new {T : Nat → Str → Fn} [H : H_without_edge T] (n : Nat) {ns : List Str} {es : Es} (h : Net ns es) {a b : Str} (ha : a ∈ ns) (hb : b ∈ ns) (ne : a ≠ b) (hn : ord2 a b ∉ es) : T (n + 7) "without_edge" [net ns es, .str a, .str b] = .exc "InvalidEdge" := by
  rw [H.own_without_edge (n + 6), fn_eq _ _ _ _ rfl]
  unfold b_without_edge
  tm_run
  rw [edge_ok (T := T) n h ha hb ne]
  tm_run
  simp only [hn, decide_false]
  tm_run
theorem without_edge_ok {T : Nat → Str → Fn} [H : H_without_edge T] (n : Nat) {ns : List Str} {es : Es} (h : Net ns es) {a b : Str} (ha : a ∈ ns) (hb : b ∈ ns) (ne : a ≠ b) (hn : ord2 a b ∈ es) : T (n + 7) "without_edge" [net ns es, .str a, .str b] = if connB ns (lessE es (ord2 a b)) then .ok (net ns (lessE es (ord2 a b))) false [] else .exc "Disconnected" := by
  have el := h.elen
  rw [H.own_without_edge (n + 6), fn_eq _ _ _ _ rfl]
  unfold b_without_edge
  tm_run
  rw [edge_ok (T := T) n h ha hb ne]
  tm_run
  simp only [hn, decide_true]
  tm_run
  rw [lc pr es (fun q => !decide (q = ord2 a b)) pr]
  · tm_run
    cases q : connB ns (lessE es (ord2 a b)) with
    | true =>
      rw [conn_ok (T := T) (n + 2) (h.less _) q]
      tm_run
    | false =>
      rw [conn_no (T := T) (n + 2) (h.less _) q]
      tm_run
  · tm_run
  · exact ⟨rfl, rfl, rfl⟩
  · intro p hp
    tm_run
    rw [pNe_pr]
    tm_run
  · rw [sizeLine_eq]; omega
/-! ### connected, by the table -/
theorem joined_iff {ns : List Str} {es : Es} (h : Pre ns es) : decide (mx ((allP ns).map fun p => floyd ns es p.1 p.2) < 50) = connB ns es := by
  rw [Bool.eq_iff_iff, decide_eq_true_eq, connB_iff]
  constructor
  · intro hm a ha b hb
    refine Classical.byContradiction fun hn => ?_
    have := (floyd_dist h ha hb).2 fun k w => hn ⟨k, w⟩
    have g := mx_ge (List.mem_map.mpr ⟨(a, b), allP_mem.mpr ⟨ha, hb⟩, rfl⟩ : floyd ns es a b ∈ (allP ns).map fun p => floyd ns es p.1 p.2)
    omega
  · intro c
    have : mx ((allP ns).map fun p => floyd ns es p.1 p.2) ≤ 8 := by
      rw [mx_le]
      intro x hx
      obtain ⟨⟨a, b⟩, hp, rfl⟩ := List.mem_map.mp hx
      obtain ⟨ha, hb⟩ := allP_mem.mp hp
      obtain ⟨k, w⟩ := c a ha b hb
      obtain ⟨d, hd, _⟩ := r_isD_of w
      have e := (floyd_dist h ha hb).1 d hd
      have := h.dlt ha hd
      have := h.len
      simp only [e]
      omega
    omega
theorem tabD_walk {ns : List Str} (hne : ns ≠ []) (f : F2) : walked (tabD ns f) = some ((allP ns).map pr) := by
  unfold tabD tabP walked
  have : (allP ns) ≠ [] := by
    cases ns with
    | nil => exact absurd rfl hne
    | cons a ns => simp [allP]
  have e : ((List.map (kv pr nI) (List.map (fun p => (p, f p.1 p.2)) (allP ns))).isEmpty) = false := by
    cases h : allP ns with
    | nil => exact absurd h this
    | cons x xs => rfl
  simp only [e, Bool.false_eq_true, if_false]
  rw [List.map_map, List.map_map]
  rfl
theorem allP_ne {ns : List Str} (h : ns ≠ []) : allP ns ≠ [] := by
  cases ns with
  | nil => exact absurd rfl h
  | cons a ns => simp [allP]
theorem allP_64 {ns : List Str} (h : ns.length ≤ 8) : (allP ns).length ≤ 64 := by
  rw [allP_len]; exact Nat.le_trans (Nat.mul_le_mul h h) (by decide)
/-- the table, walked: v is its greatest entry -/
theorem tab_max {own tslot : Nat} {e : En} {ns : List Str} {f : F2} (hne : ns ≠ []) (hl : ns.length ≤ 8) (he : (xVar tslot e) = .ok (tabD ns f, false) e) (hk : ∀ p ∈ allP ns, lcOne [own] (.nm own) [] (xPrim pIx [.nm tslot, .nm own]) (pr p) e = .ok (some (nI (f p.1 p.2))) e) (hz : LcOk [own] e) :
    xLc [own] (.val (xVar tslot)) (.nm own) [] (xPrim pIx [.nm tslot, .nm own]) e = .ok (.list (((allP ns).map fun p => f p.1 p.2).map nI), true) e := by
  rw [lcm pr (allP ns) (fun p => nI (f p.1 p.2)) ?_ hz hk (by have := allP_64 hl; rw [sizeLine_eq]; omega), map_nI]
  rw [it_val, he]
  show ofO (walked (tabD ns f)) e = _
  rw [tabD_walk hne]
  rfl
theorem joined_run {T : Nat → Str → Fn} [H : H__law_joined T] (n : Nat) {ns : List Str} {es : Es} (h : Pre ns es) : T (n + 2) "_law_joined" [sT ns, pT es] = .ok (.bool (connB ns es)) false [] := by
  rw [H.own__law_joined (n + 1), fn_eq _ _ _ _ rfl]
  unfold b__law_joined
  tm_run
  rw [table_run (T := T) n h]
  tm_run
  rw [tab_max h.ne h.len rfl ?_ ⟨rfl, rfl, rfl⟩]
  · tm_run
    rw [pMax1_L (by simp [allP_ne h.ne])]
    tm_run
    rw [show PyData.int 50 = nI 50 from rfl, pLt_nI, joined_iff h]
    tm_run
  · intro p hp
    have ix := pIx_tab (f := floyd ns es) (a := p.1) (b := p.2) hp
    unfold pr
    tm_run
    rw [ix]
    tm_run

/-! ### the order of rows -/
theorem sT_lt_cons (x y : Str) (xs ys : List Str) : dataLt (sT (x :: xs)) (sT (y :: ys)) = if x = y then dataLt (sT xs) (sT ys) else nlt x y := by
  rw [sT, sT, dataLt_tuple, List.map_cons, List.map_cons, dataLt_cons rfl, eqv_str]
  by_cases h : x = y
  · simp [h, sT, dataLt_tuple]
  · simp [h, nlt]
theorem sT_lt_nil (y : Str) (ys : List Str) : dataLt (sT []) (sT (y :: ys)) = true := by
  rw [sT, sT, dataLt_tuple]
  rfl
theorem sT_lt_to_nil (xs : List Str) : dataLt (sT xs) (sT []) = false := by
  cases xs with
  | nil => exact dl_irrefl _
  | cons x xs => exact dl_asymm (sT_lt_nil x xs)
theorem sT_lt_pre : ∀ (p xs ys : List Str), dataLt (sT (p ++ xs)) (sT (p ++ ys)) = dataLt (sT xs) (sT ys)
  | [], _, _ => rfl
  | z :: p, xs, ys => by
    rw [List.cons_append, List.cons_append, sT_lt_cons, if_pos rfl, sT_lt_pre p xs ys]
theorem sT_lt_app : ∀ {r s : List Str} (t u : List Str), r.length = s.length → dataLt (sT r) (sT s) = true → dataLt (sT (r ++ t)) (sT (s ++ u)) = true
  | [], [], t, u, _, h => by rw [dl_irrefl] at h; cases h
  | x :: r, y :: s, t, u, hl, h => by
    rw [List.cons_append, List.cons_append, sT_lt_cons]
    rw [sT_lt_cons] at h
    by_cases e : x = y
    · rw [if_pos e] at h ⊢
      exact sT_lt_app t u (by simpa using hl) h
    · rw [if_neg e] at h ⊢
      exact h
  | [], _ :: _, _, _, hl, _ => by simp at hl
  | _ :: _, [], _, _, hl, _ => by simp at hl
/-- first by length -/
def lr (r : List Str) : D := .tuple [nI r.length, sT r]
theorem lr_lt (r s : List Str) : dataLt (lr r) (lr s) = if r.length = s.length then dataLt (sT r) (sT s) else decide (r.length < s.length) := by
  unfold lr
  rw [dataLt_pair rfl (sT_alike r s), nI, nI, eqv_int, eqv_sT, dataLt_int]
  by_cases h : r.length = s.length
  · simp only [h, decide_true, if_true]
    by_cases e : r = s
    · simp [e, dl_irrefl]
    · simp [e]
  · have : ¬ ((r.length : Int) = (s.length : Int)) := by omega
    simp only [this, decide_false, Bool.false_eq_true, if_false, h]
    exact decide_eq_decide.mpr (by omega)
theorem lr_plain (r : List Str) : (lr r).plain = true := by
  rw [lr, r_plain_tuple, plainAll_cons, plainAll_cons, plainAll_nil, sT_plain]; rfl
theorem lr_depth (r : List Str) : (lr r).depth ≤ 2 := by
  have := sT_depth r
  rw [lr, depth_tuple, depthAll_cons, depthAll_cons, depthAll_nil, nI, depth_int]
  omega
theorem lr_alike (r s : List Str) : alike (lr r) (lr s) = true := by
  have := sT_alike r s
  have e : alike (lr r) (lr s) = (alike (nI r.length) (nI s.length) && (alike (sT r) (sT s) && true)) := by simp only [lr, alike, alikeAll]
  rw [e, this]
  rfl
theorem sortOk_lrs (xs : List (List Str)) : sortOk (xs.map lr) = true := sortOk_map _ lr_plain lr_alike (fun r => Nat.le_trans (lr_depth r) (by decide)) (.inl fun _ => rfl) xs
theorem pSorted_lrL (xs : List (List Str)) : pSorted [.list (xs.map lr)] = some (.list ((sortE lr xs).map lr), true) := by rw [pSorted_list _ (sortOk_lrs xs), sortD_map]
/-! ### ascending rows of nodes -/
structure Up (ns row : List Str) : Prop where
  asc : Asc .str row
  sub : ∀ x ∈ row, x ∈ ns
def extB (row : List Str) (x : Str) : Bool := match row.getLast? with
  | none => true
  | some y => nlt y x
theorem asc_snoc {r : List Str} {x : Str} : Asc .str (r ++ [x]) ↔ Asc .str r ∧ ∀ y ∈ r, nlt y x = true := by
  unfold Asc
  rw [List.pairwise_append]
  simp only [List.pairwise_cons, List.not_mem_nil, false_implies, implies_true, List.Pairwise.nil, and_self, List.mem_singleton, forall_eq, true_and]
  rfl
theorem ext_iff {r : List Str} (h : Asc .str r) {x : Str} : extB r x = true ↔ ∀ y ∈ r, nlt y x = true := by
  rcases List.eq_nil_or_concat r with rfl | ⟨s, z, rfl⟩
  · simp [extB]
  · simp only [List.concat_eq_append] at *
    have e : extB (s ++ [z]) x = nlt z x := by simp [extB]
    rw [e]
    have hs := (asc_snoc.mp h).2
    constructor
    · intro q y hy
      rcases List.mem_append.mp hy with hy | hy
      · exact nlt_trans (hs y hy) q
      · rw [List.mem_singleton] at hy; rw [hy]; exact q
    · intro q
      exact q z (by simp)
theorem up_nil (ns : List Str) : Up ns [] := ⟨.nil, by simp⟩
theorem up_snoc {ns r : List Str} {x : Str} : Up ns (r ++ [x]) ↔ Up ns r ∧ x ∈ ns ∧ extB r x = true := by
  constructor
  · rintro ⟨h1, h2⟩
    obtain ⟨h3, h4⟩ := asc_snoc.mp h1
    exact ⟨⟨h3, fun y hy => h2 y (List.mem_append_left _ hy)⟩, h2 x (by simp), (ext_iff h3).mpr h4⟩
  · rintro ⟨⟨h1, h2⟩, h3, h4⟩
    refine ⟨asc_snoc.mpr ⟨h1, (ext_iff h1).mp h4⟩, fun y hy => ?_⟩
    rcases List.mem_append.mp hy with hy | hy
    · exact h2 y hy
    · rw [List.mem_singleton] at hy; rw [hy]; exact h3
theorem Up.len {ns row : List Str} (h : Up ns row) : row.length ≤ ns.length := h.asc.nodup.length_le_of_subset h.sub
theorem Up.sublist {ns row : List Str} (h : row.Sublist ns) (ha : Asc .str ns) : Up ns row := ⟨ha.sublist h, h.subset⟩
def chs (ns : List Str) : Nat → List (List Str)
  | 0 => [[]]
  | k + 1 => (chs ns k).flatMap fun row => (ns.filter (extB row)).map fun x => row ++ [x]
theorem chs_mem {ns : List Str} : ∀ {k : Nat} {row : List Str}, row ∈ chs ns k ↔ Up ns row ∧ row.length = k
  | 0, row => by
    simp only [chs, List.mem_singleton]
    constructor
    · rintro rfl; exact ⟨up_nil ns, rfl⟩
    · rintro ⟨_, h⟩; exact List.eq_nil_of_length_eq_zero h
  | k + 1, row => by
    simp only [chs, List.mem_flatMap, List.mem_map, List.mem_filter]
    constructor
    · rintro ⟨r, hr, x, ⟨hx, he⟩, rfl⟩
      obtain ⟨u, l⟩ := chs_mem.mp hr
      exact ⟨up_snoc.mpr ⟨u, hx, he⟩, by simp [l]⟩
    · rintro ⟨u, l⟩
      rcases List.eq_nil_or_concat row with rfl | ⟨s, z, rfl⟩
      · simp at l
      · rw [List.concat_eq_append] at *
        obtain ⟨u1, u2, u3⟩ := up_snoc.mp u
        exact ⟨s, chs_mem.mpr ⟨u1, by simpa using l⟩, z, ⟨u2, u3⟩, rfl⟩
theorem chs_asc {ns : List Str} (ha : Asc .str ns) : ∀ k, Asc sT (chs ns k)
  | 0 => by simp [chs, Asc]
  | k + 1 => by
    unfold Asc
    rw [chs, List.pairwise_flatMap]
    constructor
    · intro row _
      rw [List.pairwise_map]
      refine (ha.filter (extB row)).imp fun {x y} q => ?_
      rw [sT_lt_pre, sT_lt_cons, if_neg (nlt_ne q)]
      exact q
    · refine (chs_asc ha k).imp_of_mem fun {r s} hr hs q => ?_
      intro x hx y hy
      obtain ⟨a, _, rfl⟩ := List.mem_map.mp hx
      obtain ⟨b, _, rfl⟩ := List.mem_map.mp hy
      exact sT_lt_app _ _ (by rw [(chs_mem.mp hr).2, (chs_mem.mp hs).2]) q
def allch (ns : List Str) : List (List Str) := (List.range (ns.length + 1)).flatMap (chs ns)
theorem allch_mem {ns row : List Str} : row ∈ allch ns ↔ Up ns row := by
  simp only [allch, List.mem_flatMap, List.mem_range, chs_mem]
  constructor
  · rintro ⟨k, _, u, _⟩; exact u
  · intro u
    exact ⟨row.length, by have := u.len; omega, u, rfl⟩
theorem allch_asc {ns : List Str} (ha : Asc .str ns) : Asc lr (allch ns) := by
  unfold Asc allch
  rw [List.pairwise_flatMap]
  constructor
  · intro k _
    refine (chs_asc ha k).imp_of_mem fun {r s} hr hs q => ?_
    rw [lr_lt, if_pos (by rw [(chs_mem.mp hr).2, (chs_mem.mp hs).2])]
    exact q
  · refine List.pairwise_lt_range.imp fun {i j} q => ?_
    intro x hx y hy
    have h1 := (chs_mem.mp hx).2
    have h2 := (chs_mem.mp hy).2
    rw [lr_lt, if_neg (by omega)]
    exact decide_eq_true (by omega)
/-- all rows, as the law makes them -/
def sbs (ns : List Str) : List (List Str) := ns.foldl (fun F a => F ++ F.map (· ++ [a])) [[]]
theorem sbs_go : ∀ (xs pre : List Str) (F : List (List Str)), Asc .str (pre ++ xs) → F.Nodup → (∀ row, row ∈ F ↔ Up pre row) → (xs.foldl (fun F a => F ++ F.map (· ++ [a])) F).Nodup ∧ ∀ row, row ∈ xs.foldl (fun F a => F ++ F.map (· ++ [a])) F ↔ Up (pre ++ xs) row
  | [], pre, F, _, nd, h => by simpa using ⟨nd, h⟩
  | a :: xs, pre, F, ha, nd, h => by
    have e : pre ++ a :: xs = (pre ++ [a]) ++ xs := by simp
    rw [e] at ha ⊢
    have hpa : Asc .str (pre ++ [a]) := ha.sublist (List.sublist_append_left _ _)
    obtain ⟨hp, hlt⟩ := asc_snoc.mp hpa
    rw [List.foldl_cons]
    refine sbs_go xs (pre ++ [a]) _ ha ?_ ?_
    · rw [List.nodup_append]
      refine ⟨nd, map_nodup nd (fun x _ y _ q => List.append_cancel_right q), ?_⟩
      intro x hx y hy q
      obtain ⟨r, hr, rfl⟩ := List.mem_map.mp hy
      subst q
      have := ((h _).mp hx).sub a (by simp)
      have := hlt a this
      rw [nlt_irrefl] at this
      cases this
    · intro row
      rw [List.mem_append, List.mem_map]
      constructor
      · rintro (q | ⟨r, hr, rfl⟩)
        · have u := (h row).mp q
          exact ⟨u.asc, fun x hx => List.mem_append_left _ (u.sub x hx)⟩
        · have u := (h r).mp hr
          rw [up_snoc]
          exact ⟨⟨u.asc, fun x hx => List.mem_append_left _ (u.sub x hx)⟩, by simp, (ext_iff u.asc).mpr fun y hy => hlt y (u.sub y hy)⟩
      · intro u
        rcases List.eq_nil_or_concat row with rfl | ⟨s, z, rfl⟩
        · exact .inl ((h []).mpr (up_nil _))
        · rw [List.concat_eq_append] at *
          obtain ⟨u1, u2, u3⟩ := up_snoc.mp u
          have u4 := (ext_iff u1.asc).mp u3
          have inpre : ∀ y ∈ s, y ∈ pre := by
            intro y hy
            rcases List.mem_append.mp (u1.sub y hy) with q | q
            · exact q
            · rw [List.mem_singleton] at q
              exfalso
              have q1 := u4 y hy
              rw [q] at q1
              rcases List.mem_append.mp u2 with q2 | q2
              · rw [nlt_asymm (hlt z q2)] at q1; cases q1
              · rw [List.mem_singleton] at q2; rw [q2, nlt_irrefl] at q1; cases q1
          rcases List.mem_append.mp u2 with q | q
          · refine .inl ((h _).mpr (up_snoc.mpr ⟨⟨u1.asc, inpre⟩, q, u3⟩))
          · rw [List.mem_singleton] at q
            subst q
            exact .inr ⟨s, (h s).mpr ⟨u1.asc, inpre⟩, rfl⟩
theorem sbs_spec {ns : List Str} (ha : Asc .str ns) : (sbs ns).Nodup ∧ ∀ row, row ∈ sbs ns ↔ Up ns row := by
  have := sbs_go ns [] [[]] (by simpa using ha) (by simp) (fun row => by
    rw [List.mem_singleton]
    constructor
    · rintro rfl; exact up_nil _
    · rintro ⟨_, h⟩
      cases row with
      | nil => rfl
      | cons x r => exact absurd (h x List.mem_cons_self) (by simp))
  simp only [List.nil_append] at this
  exact this
theorem sbs_sort {ns : List Str} (ha : Asc .str ns) : sortE lr (sbs ns) = allch ns := by
  refine sortE_eq ?_ (allch_asc ha)
  rw [List.perm_ext_iff_of_nodup (sbs_spec ha).1 (allch_asc ha).nodup]
  intro row
  rw [(sbs_spec ha).2, allch_mem]
theorem sbs_len (ns : List Str) : (sbs ns).length = 2 ^ ns.length := by
  have go : ∀ (xs : List Str) (F : List (List Str)), (xs.foldl (fun F a => F ++ F.map (· ++ [a])) F).length = F.length * 2 ^ xs.length := by
    intro xs
    induction xs with
    | nil => intro F; simp
    | cons a xs ih =>
      intro F
      rw [List.foldl_cons, ih, List.length_append, List.length_map, List.length_cons, Nat.pow_succ]
      rw [← Nat.two_mul, Nat.mul_comm 2, Nat.mul_assoc, Nat.mul_comm 2]
  have := go ns [[]]
  simpa [sbs] using this
theorem sbs_256 {ns : List Str} (h : ns.length ≤ 8) : (sbs ns).length ≤ 256 := by
  rw [sbs_len]
  exact Nat.pow_le_pow_right (by decide) h
theorem chs_256 {ns : List Str} (ha : Asc .str ns) (h : ns.length ≤ 8) (k : Nat) : (chs ns k).length ≤ 256 := by
  have := (chs_asc ha k).nodup.length_le_of_subset (l₂ := sbs ns) fun r hr => ((sbs_spec ha).2 r).mpr (chs_mem.mp hr).1
  have := sbs_256 h
  omega
theorem allch_256 {ns : List Str} (ha : Asc .str ns) (h : ns.length ≤ 8) : (allch ns).length ≤ 256 := by
  have := (allch_asc ha).nodup.length_le_of_subset (l₂ := sbs ns) fun r hr => ((sbs_spec ha).2 r).mpr (allch_mem.mp hr)
  have := sbs_256 h
  omega
theorem find_flat {α β : Type} (f : α → List β) (P : β → Bool) : ∀ xs : List α, (xs.flatMap f).find? P = (xs.find? (fun x => ((f x).find? P).isSome)).bind fun x => (f x).find? P
  | [] => rfl
  | x :: xs => by
    rw [List.flatMap_cons, List.find?_append, List.find?_cons, find_flat f P xs]
    cases h : (f x).find? P with
    | none => simp
    | some y => simp [h]
/-- what a loop that looks for something ends with -/
def flO {α : Type} (r : α → D) (fr : Bool) : Option α → Fl
  | some x => .ret (r x) fr
  | none => .next
theorem for_look {α : Type} {tg : Tg} {b : S} (enc : α → D) (E : En → Prop) (p : α → Bool) (r : α → D) (fr : Bool) (xs : List α) (e : En) (h0 : E e) (ht : ∀ e x, x ∈ xs → E e → ∃ e2, forOne tg b (enc x) e = .ok (if p x then .ret (r x) fr else .next) e2 ∧ E e2) :
    ∃ e', E e' ∧ forGo tg b (xs.map enc) e = .ok (flO r fr (xs.find? p)) e' := by
  obtain ⟨e', h1, h2⟩ := for_find enc E p r fr xs e h0 ht
  refine ⟨e', h1, h2.trans ?_⟩
  cases xs.find? p <;> rfl
/-! ### two fors in one comprehension -/
theorem lc2_go {α β : Type} (enc : α → D) (encI : β → D) (ys : α → List β) (p : α → β → Bool) (g : α → β → D) {own : List Nat} {tg : Tg} {own2 : List Nat} {it2 : It} {tg2 : Tg} {ts : List T} {elt : X} {e : En} : ∀ (xs : List α) (acc : List D),
    (∀ x ∈ xs, ∃ e1, tg.put (enc x) e = some e1 ∧ it2.ev e1 = .ok ((ys x).map encI) e1 ∧ wipeE e1 own2 = e1 ∧ wipeE e1 own = e ∧ ∀ y ∈ ys x, lcOne own2 tg2 ts elt (encI y) e1 = .ok (if p x y then some (g x y) else none) e1) → acc.length + (xs.map fun x => (ys x).length).sum ≤ sizeLine →
    lc2Go own tg own2 it2 tg2 ts elt (xs.map enc) acc e = .ok (acc ++ xs.flatMap fun x => ((ys x).filter (p x)).map (g x)) e
  | [], acc, _, _ => by simp [lc2Go]
  | x :: xs, acc, h, hl => by
    obtain ⟨e1, h1, h2, h3, h4, h5⟩ := h x List.mem_cons_self
    simp only [List.map_cons, List.sum_cons] at hl
    have g1 := lc_go2 (own := own2) (tg := tg2) (ts := ts) (elt := elt) (e := e1) encI (fun y => if p x y then some (g x y) else none) (ys x) acc h5 (by omega)
    rw [filterMap_if] at g1
    simp only [List.map_cons, lc2Go, h1, h2, Re.calm, Re.bind_ok, h3, g1, h4]
    rw [lc2_go enc encI ys p g xs _ (fun y hy => h y (List.mem_cons_of_mem _ hy)) (by
      rw [List.length_append, List.length_map]
      have := List.length_filter_le (p x) (ys x)
      omega)]
    simp
theorem lc2 {α β : Type} (enc : α → D) (xs : List α) (encI : β → D) (ys : α → List β) (p : α → β → Bool) (g : α → β → D) {own : List Nat} {it : It} {tg : Tg} {own2 : List Nat} {it2 : It} {tg2 : Tg} {ts : List T} {elt : X} {e0 e : En} (hi : it.ev e0 = .ok (xs.map enc) e) (hz : LcOk own e)
    (ht : ∀ x ∈ xs, ∃ e1, tg.put (enc x) e = some e1 ∧ it2.ev e1 = .ok ((ys x).map encI) e1 ∧ wipeE e1 own2 = e1 ∧ wipeE e1 own = e ∧ ∀ y ∈ ys x, lcOne own2 tg2 ts elt (encI y) e1 = .ok (if p x y then some (g x y) else none) e1) (hl : (xs.map fun x => (ys x).length).sum ≤ sizeLine) :
    xLc2 own it tg own2 it2 tg2 ts elt e0 = .ok (.list (xs.flatMap fun x => ((ys x).filter (p x)).map (g x)), true) e := by
  obtain ⟨h1, h2, h3⟩ := hz
  unfold xLc2
  rw [hi]
  simp only [Re.bind_ok, h1, if_true]
  rw [h2, lc2_go enc encI ys p g xs [] ht (by simpa using hl)]
  simp [h3]
/-! ### a comprehension whose test draws -/
theorem lc_subGo {α : Type} {own : List Nat} {tg : Tg} {ts : List T} {elt : X} (E : Nat → En → Prop) (enc : α → D) (g : α → D) (B : Nat) : ∀ (xs : List α) (acc : List D) (k : Nat) (e : En), E k e → (∀ x ∈ xs, ∀ k e1, k < B → E k e1 → ∃ (b : Bool) (e2 : En), E (k + 1) e2 ∧ lcOne own tg ts elt (enc x) e1 = .ok (if b then some (g x) else none) e2) → acc.length + xs.length ≤ sizeLine → k + xs.length ≤ B →
    ∃ (ys : List α) (e2 : En), ys.Sublist xs ∧ E (k + xs.length) e2 ∧ lcGo own tg ts elt (xs.map enc) acc e = .ok (acc ++ ys.map g) e2
  | [], acc, k, e, he, _, _, _ => ⟨[], e, .slnil, he, by simp [lcGo]⟩
  | x :: xs, acc, k, e, he, h, hl, hB => by
    simp only [List.length_cons] at hl hB
    obtain ⟨b, e2, he2, h1⟩ := h x List.mem_cons_self k e (by omega) he
    obtain ⟨e1, h3, h4⟩ := lc_turn h1 acc (by omega)
    obtain ⟨ys, e3, sl, he3, h5⟩ := lc_subGo E enc g B xs (acc ++ (if b = true then some (g x) else none).toList) (k + 1) e2 he2 (fun y hy => h y (List.mem_cons_of_mem _ hy)) (by
      have : ((if b = true then some (g x) else none) : Option D).toList.length ≤ 1 := by cases b <;> simp
      rw [List.length_append]; omega) (by omega)
    refine ⟨if b then x :: ys else ys, e3, ?_, by rw [List.length_cons, show k + (xs.length + 1) = k + 1 + xs.length by omega]; exact he3, ?_⟩
    · cases b
      · exact .cons _ sl
      · exact .cons_cons _ sl
    · simp only [List.map_cons, lcGo, h3, Re.bind_ok, h4, h5]
      cases b <;> simp
/-- what is kept: some of the rows; E counts the turns -/
theorem lc_sub {α : Type} (E : Nat → En → Prop) (enc : α → D) (xs : List α) (g : α → D) {own : List Nat} {it : It} {tg : Tg} {ts : List T} {elt : X} {e e0 : En} (hi : it.ev e = .ok (xs.map enc) e0) (he : E 0 e0) (hz : own.all (frozenAt e0) = true ∧ wipeE e0 own = e0) (hb : ∀ k e1, E k e1 → backE e0 e1 own = e1)
    (ht : ∀ x ∈ xs, ∀ k e1, k < xs.length → E k e1 → ∃ (b : Bool) (e2 : En), E (k + 1) e2 ∧ lcOne own tg ts elt (enc x) e1 = .ok (if b then some (g x) else none) e2) (hl : xs.length ≤ sizeLine) : ∃ (ys : List α) (e2 : En), ys.Sublist xs ∧ E xs.length e2 ∧ xLc own it tg ts elt e = .ok (.list (ys.map g), true) e2 := by
  obtain ⟨ys, e2, sl, he2, h⟩ := lc_subGo E enc g xs.length xs [] 0 e0 he ht (by simpa using hl) (by omega)
  rw [Nat.zero_add] at he2
  refine ⟨ys, e2, sl, he2, ?_⟩
  unfold xLc
  rw [hi]
  simp only [Re.bind_ok, hz.1, if_true]
  rw [hz.2, h]
  simp [hb _ e2 he2]
theorem subset {T : Nat → Str → Fn} [H : H__law_subset T] (n : Nat) {sc : List Int} (hs : sc.length ≤ 1000) {m : Nat} {d : D} (hd : StN m d) (ns : List Str) (hn : ns.length ≤ 1000) (hl : m + 3000 ≤ 10000000) :
    ∃ (ys : List Str) (d' : D), ys.Sublist ns ∧ StN (m + 2 * ns.length) d' ∧ T (n + 2) "_law_subset" [Ints sc, d, sT ns] = .ok (sT ys) false [d'] := by
  rw [H.own__law_subset (n + 1), fn_eq _ _ _ _ rfl]
  unfold b__law_subset
  tm_run
  generalize hq : xLc _ _ _ _ _ _ = r
  obtain ⟨ys, e2, sl, ⟨d', sd, rfl⟩, rfl⟩ : ∃ (ys : List Str) (e2 : En), ys.Sublist ns ∧ (∃ d', StN (m + 2 * ns.length) d' ∧ e2 = [some (false, Ints sc), some (true, d'), some (false, sT ns), none]) ∧ r = .ok (.list (ys.map PyData.str), true) e2 := by
    rw [← hq]
    refine lc_sub (fun k e => ∃ d', StN (m + 2 * k) d' ∧ e = [some (false, Ints sc), some (true, d'), some (false, sT ns), none]) PyData.str ns PyData.str (e0 := [some (false, Ints sc), some (true, d), some (false, sT ns), none]) ?_ ⟨d, by simpa using hd, rfl⟩ ⟨rfl, rfl⟩ ?_ ?_ ?_
    · tm_run
    · rintro k e1 ⟨d', _, rfl⟩
      rfl
    · rintro x hx k e1 hk ⟨d', sd, rfl⟩
      obtain ⟨r, d2, hr, s2, dr⟩ := draw (T := T) n hs sd 2 (by decide) (by omega)
      refine ⟨decide ((r : Int) = 0), [some (false, Ints sc), some (true, d2), some (false, sT ns), none], ⟨d2, s2.mono (by omega), rfl⟩, ?_⟩
      tm_run
      rw [dr]
      tm_run
    · rw [sizeLine_eq]; omega
  tm_run
  exact ⟨ys, d', sl, sd, rfl⟩

/-! ### choices, meets, the first meeting -/
theorem pIx_last (r : List Str) (z : Str) : pIx [sT (r ++ [z]), .int (-1)] = some (.str z, false) := by
  have e : L2.atI ((r ++ [z]).map PyData.str) (-1) = some (.str z) := by
    unfold L2.atI L2.ixN
    simp only [List.length_map, List.length_append, List.length_singleton]
    have e1 : (-1 + ((r.length + 1 : Nat) : Int)).toNat = r.length := by omega
    have e2 : (0 : Int) ≤ -1 + ((r.length + 1 : Nat) : Int) := by omega
    simp [e1]
    rw [if_pos (by omega)]
    simp [show (-1 + ((r.length : Int) + 1)).toNat = r.length by omega]
  simp only [pIx, e, Option.map_some]
theorem pEq_sTnil (r : List Str) : pEq [.tuple (r.map .str), .tuple []] = some (.bool (decide (r = [])), false) := pEq_sT r []
theorem pNe_sTnil (r : List Str) : pNe [.tuple (r.map .str), .tuple []] = some (.bool (!decide (r = [])), false) := pNe_sT r []
theorem choices_run {T : Nat → Str → Fn} [H : H_choices T] (n : Nat) {ns : List Str} (ha : Asc .str ns) (hl : ns.length ≤ 8) (k : Nat) (hk : k ≤ 1000) : T (n + 1) "choices" [sT ns, nI k] = .ok (.list ((chs ns k).map sT)) false [] := by
  rw [H.own_choices n, fn_eq _ _ _ _ rfl]
  unfold b_choices
  have s62 := small62_nat (m := k) (by omega)
  simp only [nI_eq]
  tm_run
  rw [rngD_nat]
  generalize hq : forGo _ _ _ _ = r
  obtain ⟨e', rfl, v3, rfl⟩ : ∃ e', r = .ok .next e' ∧ ∃ v3 : Option (Bool × D), e' = [some (false, sT ns), some (false, nI k), some (true, .list ((chs ns k).map sT)), v3, none, none] := by
    rw [← hq]
    refine for_range nI k (fun i e => ∃ v3 : Option (Bool × D), e = [some (false, sT ns), some (false, nI k), some (true, .list ((chs ns i).map sT)), v3, none, none]) _ ⟨_, rfl⟩ ?_
    rintro i e hi ⟨v3, rfl⟩
    refine ⟨[some (false, sT ns), some (false, nI k), some (true, .list ((chs ns (i + 1)).map sT)), some (false, nI i), none, none], ?_, _, rfl⟩
    have cl := chs_256 ha hl i
    simp only [forOne_eq, put_nm, kOne_eq, List.set_cons_succ, List.set_cons_zero, sAsg_eq]
    have go : xLc2 [4, 5] (.val (xVar 2)) (.nm 4) [5] (.val (xVar 0)) (.nm 5) [tOr (tCmp (xPrim pEq [.nm 4, .ex (xTup [])])) (tCmp (xPrim pGt [.nm 5, .ex (xPrim pIx [.nm 4, .ex (xPrim pNeg [.ex (xLit (.int 1))])])]))] (xPrim pAdd [.nm 4, .ex (xTup [(xVar 5)])])
        [some (false, sT ns), some (false, nI k), some (true, .list ((chs ns i).map sT)), some (false, nI i), none, none] = .ok (.list ((chs ns i).flatMap fun row => (ns.filter (extB row)).map fun x => sT (row ++ [x])), true) [some (false, sT ns), some (false, nI k), some (false, .list ((chs ns i).map sT)), some (false, nI i), none, none] := by
      refine lc2 sT (chs ns i) PyData.str (fun _ => ns) extB (fun row x => sT (row ++ [x])) ?_ ⟨rfl, rfl, rfl⟩ ?_ ?_
      · tm_run
      · intro row hrow
        have u := (chs_mem.mp hrow).1
        have ul := u.len
        refine ⟨[some (false, sT ns), some (false, nI k), some (false, .list ((chs ns i).map sT)), some (false, nI i), some (false, sT row), none], by tm_run, by tm_run, rfl, rfl, ?_⟩
        intro x hx
        have add : pAdd [sT row, .tuple [.str x]] = some (sT (row ++ [x]), false) := by
          rw [sT, pAdd_tuple _ _ (by rw [List.length_map, sizeLine_eq]; simp; omega), sT, List.map_append]
          rfl
        tm_run
        rw [pEq_sTnil]
        tm_run
        rcases List.eq_nil_or_concat row with rfl | ⟨s, z, rfl⟩
        · simp only [decide_true, List.map_nil]
          tm_run
          rfl
        · rw [List.concat_eq_append] at *
          have e : extB (s ++ [z]) x = nlt z x := by simp [extB]
          rw [show decide (s ++ [z] = []) = false by simp]
          tm_run
          rw [pIx_last]
          tm_run
          rw [e]
          cases q : nlt z x with
          | false => tm_run
          | true =>
            tm_run
            rw [add]
            tm_run
      · have e : ((chs ns i).map fun _ => ns.length).sum = (chs ns i).length * ns.length := by
          generalize chs ns i = L
          induction L with
          | nil => simp
          | cons x xs ih => rw [List.map_cons, List.sum_cons, ih, List.length_cons, Nat.add_mul]; omega
        rw [e, sizeLine_eq]
        have : (chs ns i).length * ns.length ≤ 256 * 8 := Nat.mul_le_mul cl hl
        omega
    rw [go, show ((chs ns i).flatMap fun row => (ns.filter (extB row)).map fun x => sT (row ++ [x])) = (chs ns (i + 1)).map sT by
      rw [chs, List.map_flatMap]
      simp only [List.map_map]
      rfl]
    tm_run
  tm_run
/-- the landmarks have a node of each row -/
abbrev meetB (rs : List (List Str)) (lm : List Str) : Bool := rs.all fun r => r.any fun x => decide (x ∈ lm)
theorem meets_run {T : Nat → Str → Fn} [H : H_meets T] (n : Nat) (lm : List Str) {rs : List (List Str)} (hl : rs.length ≤ 1000) (h8 : ∀ r ∈ rs, r.length ≤ 8) : T (n + 1) "meets" [sT lm, .list (rs.map sT)] = .ok (.bool (meetB rs lm)) false [] := by
  rw [H.own_meets n, fn_eq _ _ _ _ rfl]
  unfold b_meets
  tm_run
  rw [lcm sT rs (fun r => .bool (r.any fun x => decide (x ∈ lm)))]
  · tm_run
  · tm_run
  · exact ⟨rfl, rfl, rfl⟩
  · intro r hr
    have := h8 r hr
    tm_run
    rw [lcm PyData.str r (fun x => .bool (decide (x ∈ lm)))]
    · tm_run
    · tm_run
    · exact ⟨rfl, rfl, rfl⟩
    · intro x hx
      tm_run
    · rw [sizeLine_eq]; omega
  · rw [sizeLine_eq]; omega
/-- a row or None -/
def oT : Option (List Str) → D
  | some r => sT r
  | none => .none
theorem first_run {T : Nat → Str → Fn} [H : H_first_meeting T] (n : Nat) {ns : List Str} (ha : Asc .str ns) (hn : ns.length ≤ 8) {rs : List (List Str)} (hl : rs.length ≤ 1000) (h8 : ∀ r ∈ rs, r.length ≤ 8) : T (n + 2) "first_meeting" [sT ns, .list (rs.map sT)] = .ok (oT ((allch ns).find? (meetB rs))) false [] := by
  rw [H.own_first_meeting (n + 1), fn_eq _ _ _ _ rfl]
  unfold b_first_meeting
  have s62 := small62_nat (m := ns.length + 1) (by omega)
  tm_run
  rw [show (((List.map PyData.str ns).length : Int) + 1) = ((ns.length + 1 : Nat) : Int) by rw [List.length_map]; omega]
  tm_run
  rw [rngD_nat]
  generalize hq : forGo _ _ _ _ = r
  obtain ⟨e', ⟨v2, v3, rfl⟩, rfl⟩ : ∃ e', (∃ v2 v3 : Option (Bool × D), e' = [some (false, sT ns), some (false, .list (rs.map sT)), v2, v3]) ∧ r = .ok (flO (fun k => oT ((chs ns k).find? (meetB rs))) false ((List.range (ns.length + 1)).find? fun k => ((chs ns k).find? (meetB rs)).isSome)) e' := by
    rw [← hq]
    refine for_look nI (fun e => ∃ v2 v3 : Option (Bool × D), e = [some (false, sT ns), some (false, .list (rs.map sT)), v2, v3]) (fun k => ((chs ns k).find? (meetB rs)).isSome) (fun k => oT ((chs ns k).find? (meetB rs))) false _ _ ⟨_, _, rfl⟩ ?_
    rintro e k hk ⟨v2, v3, rfl⟩
    rw [List.mem_range] at hk
    tm_run
    rw [choices_run (T := T) n ha hn k (by omega)]
    tm_run
    generalize hq1 : forGo _ _ _ _ = r1
    obtain ⟨e1, ⟨w3, rfl⟩, rfl⟩ : ∃ e', (∃ v3 : Option (Bool × D), e' = [some (false, sT ns), some (false, .list (rs.map sT)), some (false, nI k), v3]) ∧ r1 = .ok (flO sT false ((chs ns k).find? (meetB rs))) e' := by
      rw [← hq1]
      refine for_look sT (fun e => ∃ v3 : Option (Bool × D), e = [some (false, sT ns), some (false, .list (rs.map sT)), some (false, nI k), v3]) (meetB rs) sT false _ _ ⟨_, rfl⟩ ?_
      rintro e row hrow ⟨v3, rfl⟩
      tm_run
      rw [meets_run (T := T) n row hl h8]
      tm_run
      cases q : meetB rs row with
      | true => tm_run; exact ⟨_, rfl, _, rfl⟩
      | false => tm_run; exact ⟨_, rfl, _, rfl⟩
    refine ⟨[some (false, sT ns), some (false, .list (rs.map sT)), some (false, nI k), w3], ?_, _, _, rfl⟩
    cases (chs ns k).find? (meetB rs) <;> rfl
  rw [allch, find_flat]
  cases (List.range (ns.length + 1)).find? (fun k => ((chs ns k).find? (meetB rs)).isSome) with
  | none => unfold flO; tm_run; rfl
  | some k => unfold flO; tm_run; rfl
noncomputable abbrev rowsP (ns : List Str) (es : Es) : List (List Str) := (pairsP ns).map (sepP ns es)
theorem rowsP_len {ns : List Str} {es : Es} (h : ns.length ≤ 8) : (rowsP ns es).length ≤ 64 := by rw [List.length_map]; exact pairsP_len ns h
theorem rowsP_8 {ns : List Str} {es : Es} (h : ns.length ≤ 8) : ∀ r ∈ rowsP ns es, r.length ≤ 8 := by
  intro r hr
  obtain ⟨p, _, rfl⟩ := List.mem_map.mp hr
  exact Nat.le_trans (List.length_filter_le _ _) h
noncomputable abbrev smallP (ns : List Str) (es : Es) : Option (List Str) := (allch ns).find? (meetB (rowsP ns es))
theorem find_smallest_run {T : Nat → Str → Fn} [H : H_find_smallest T] (n : Nat) {ns : List Str} {es : Es} (h : Net ns es) : T (n + 5) "find_smallest" [net ns es] = .ok (oT (smallP ns es)) false [] := by
  rw [H.own_find_smallest (n + 4), fn_eq _ _ _ _ rfl]
  unfold b_find_smallest
  tm_run
  rw [sep_rows_run (T := T) n h]
  tm_run
  rw [first_run (T := T) (n + 2) h.asc h.len (by have := rowsP_len (es := es) h.len; omega) (rowsP_8 h.len)]
  tm_run
theorem self_sep {ns : List Str} {es : Es} (h : Net ns es) {p : Str × Str} (hp : p ∈ pairsP ns) : p.1 ∈ sepP ns es p ∧ p.2 ∈ sepP ns es p := by
  obtain ⟨h1, h2, h3⟩ := (pairsP_mem h.asc).mp (show (p.1, p.2) ∈ pairsP ns from hp)
  have ne := nlt_ne h3
  constructor
  · unfold sepP
    rw [List.mem_filter]
    refine ⟨h1, ?_⟩
    rw [dist_self]
    have : dist es p.1 p.2 ≠ 0 := fun q => ne ((h.dist_zero h1 h2).mp q)
    simp; omega
  · unfold sepP
    rw [List.mem_filter]
    refine ⟨h2, ?_⟩
    rw [dist_self]
    have : dist es p.2 p.1 ≠ 0 := fun q => ne ((h.dist_zero h2 h1).mp q).symm
    simp; omega
/-- all nodes meet all rows -/
theorem meet_all {ns : List Str} {es : Es} (h : Net ns es) : meetB (rowsP ns es) ns = true := by
  rw [List.all_eq_true]
  intro r hr
  obtain ⟨p, hp, rfl⟩ := List.mem_map.mp hr
  rw [List.any_eq_true]
  have := (self_sep h hp).1
  exact ⟨p.1, this, decide_eq_true (List.mem_filter.mp this).1⟩
theorem small_some {ns : List Str} {es : Es} (h : Net ns es) : ∃ r, smallP ns es = some r ∧ Up ns r ∧ meetB (rowsP ns es) r = true := by
  cases q : smallP ns es with
  | some r => exact ⟨r, rfl, allch_mem.mp (List.mem_of_find?_eq_some q), List.find?_some q⟩
  | none =>
    rw [List.find?_eq_none] at q
    exact absurd (meet_all h) (q ns (allch_mem.mpr ⟨h.asc, fun x hx => hx⟩))
noncomputable abbrev dimP (ns : List Str) (es : Es) : Nat := ((smallP ns es).getD []).length
theorem dimension_run {T : Nat → Str → Fn} [H : H_dimension T] (n : Nat) {ns : List Str} {es : Es} (h : Net ns es) : T (n + 6) "dimension" [net ns es] = .ok (nI (dimP ns es)) false [] := by
  obtain ⟨r, e, _⟩ := small_some h
  rw [H.own_dimension (n + 5), fn_eq _ _ _ _ rfl]
  unfold b_dimension
  tm_run
  rw [req_ok (T := T) n h]
  tm_run
  rw [find_smallest_run (T := T) n h, dimP, e]
  unfold oT
  tm_run
  rw [List.length_map]
  rfl
theorem smallest_run {T : Nat → Str → Fn} [H : H_smallest T] (n : Nat) {ns : List Str} {es : Es} (h : Net ns es) : T (n + 6) "smallest" [net ns es] = .ok (sT ((smallP ns es).getD [])) false [] := by
  obtain ⟨r, e, _⟩ := small_some h
  rw [H.own_smallest (n + 5), fn_eq _ _ _ _ rfl]
  unfold b_smallest
  tm_run
  rw [req_ok (T := T) n h]
  tm_run
  rw [find_smallest_run (T := T) n h, e]
  unfold oT
  tm_run
  rfl
theorem dimension_bad {T : Nat → Str → Fn} [H : H_dimension T] (n : Nat) {d : D} (ok : okD d = true) (h : isNetB d = false) : T (n + 6) "dimension" [d] = .exc "InvalidNetwork" := by
  rw [H.own_dimension (n + 5), fn_eq _ _ _ _ rfl]
  unfold b_dimension
  tm_run
  rw [req_bad (T := T) n ok h]
  tm_run
/-! ### numbers and landmarks of any shape -/
def isIntB (a b : Int) : D → Bool
  | .int i => decide (a ≤ i) && decide (i ≤ b)
  | _ => false
theorem integer_run {T : Nat → Str → Fn} [H : H_is_integer T] (n : Nat) (a b : Int) (d : D) (hp : d.plain = true) : T (n + 1) "is_integer" [d, .int a, .int b] = .ok (.bool (isIntB a b d)) false [] := by
  rw [H.own_is_integer n, fn_eq _ _ _ _ rfl]
  unfold b_is_integer
  cases d with
  | int i =>
    tm_run
    cases q : decide (a ≤ i) with
    | false => tm_run; simp [isIntB, q]
    | true => tm_run; simp [isIntB, q]
  | dict _ => simp [PyData.plain] at hp
  | _ => tm_run; rfl
open Classical in
noncomputable def areNodesB (ns : List Str) (d : D) : Bool := decide (∃ r, d = sT r ∧ Up ns r)
open Classical in
theorem areNodesB_iff {ns : List Str} {d : D} : areNodesB ns d = true ↔ ∃ r, d = sT r ∧ Up ns r := by
  unfold areNodesB
  exact decide_eq_true_iff
theorem areNodesB_no {ns : List Str} {d : D} (h : ¬ ∃ r, d = sT r ∧ Up ns r) : areNodesB ns d = false := Bool.eq_false_iff.mpr fun q => h (areNodesB_iff.mp q)
theorem areNodesB_up {ns r : List Str} (h : Up ns r) : areNodesB ns (sT r) = true := areNodesB_iff.mpr ⟨r, rfl, h⟩
theorem inB_strs {ns : List Str} : ∀ {xs : List D}, xs.all (inB ns) = true → ∃ r : List Str, xs = r.map .str ∧ ∀ x ∈ r, x ∈ ns
  | [], _ => ⟨[], rfl, by simp⟩
  | x :: xs, h => by
    rw [List.all_cons, Bool.and_eq_true] at h
    obtain ⟨s, rfl, hs⟩ := inB_iff.mp h.1
    obtain ⟨r, rfl, hr⟩ := inB_strs h.2
    refine ⟨s :: r, rfl, fun a ha => ?_⟩
    rcases List.mem_cons.mp ha with rfl | ha
    · exact hs
    · exact hr a ha
theorem are_nodes_run {T : Nat → Str → Fn} [H : H_are_nodes T] (n : Nat) (ns : List Str) (X d : D) (ok : okD d = true) : T (n + 2) "are_nodes" [.tuple [sT ns, X], d] = .ok (.bool (areNodesB ns d)) false [] := by
  have hp := ok_plain d ok
  rw [H.own_are_nodes (n + 1), fn_eq _ _ _ _ rfl]
  unfold b_are_nodes
  cases d with
  | tuple xs =>
    obtain ⟨hl, hok⟩ := ok_tuple.mp ok
    tm_run
    rw [lcm (fun x : D => x) xs (fun x => .bool (inB ns x))]
    · tm_run
      cases q : xs.all (inB ns) with
      | false =>
        tm_run
        rw [areNodesB_no]
        rintro ⟨r, e, u⟩
        cases e
        rw [List.all_eq_false] at q
        obtain ⟨x, hx, hn⟩ := q
        obtain ⟨a, ha, rfl⟩ := List.mem_map.mp hx
        exact hn (inB_iff.mpr ⟨a, rfl, u.sub a ha⟩)
      | true =>
        obtain ⟨r, rfl, hr⟩ := inB_strs q
        tm_run
        rw [ascending_run (T := T) PyData.str cmpOk_str n r (by simpa using hl)]
        tm_run
        congr 2
        rw [Bool.eq_iff_iff, adjAsc_iff, areNodesB_iff]
        constructor
        · intro h
          exact ⟨r, rfl, h, hr⟩
        · rintro ⟨s, e, u⟩
          rw [sT_inj e]
          exact u.asc
    · tm_run
      rw [List.map_id']
    · exact ⟨rfl, rfl, rfl⟩
    · intro z hz
      have hz' := ok_plain z (hok z hz)
      have zo := hok z hz
      cases z with
      | str s => tm_run; rfl
      | dict _ => rw [okD] at zo; cases zo
      | _ => tm_run; rfl
    · rw [sizeLine_eq]; omega
  | dict _ => rw [okD] at ok; cases ok
  | _ =>
    tm_run
    rw [areNodesB_no]
    rintro ⟨ns, e, _⟩
    cases e
theorem marks_ok {T : Nat → Str → Fn} [H : H_require_landmarks T] (n : Nat) {ns : List Str} {es : Es} (h : Net ns es) {r : List Str} (u : Up ns r) : T (n + 6) "require_landmarks" [net ns es, sT r] = .ok .none false [] := by
  have okr : okD (sT r) = true := ok_sT (fun a ha => h.name a (u.sub a ha)) (by have := u.len; have := h.len; omega)
  rw [H.own_require_landmarks (n + 5), fn_eq _ _ _ _ rfl]
  unfold b_require_landmarks
  tm_run
  rw [req_ok (T := T) n h]
  tm_run
  rw [are_nodes_run (T := T) (n + 3) ns (pT es) (sT r) okr, areNodesB_up u]
  tm_run
theorem marks_bad {T : Nat → Str → Fn} [H : H_require_landmarks T] (n : Nat) {ns : List Str} {es : Es} (h : Net ns es) {d : D} (ok : okD d = true) (u : areNodesB ns d = false) : T (n + 6) "require_landmarks" [net ns es, d] = .exc "InvalidLandmarks" := by
  rw [H.own_require_landmarks (n + 5), fn_eq _ _ _ _ rfl]
  unfold b_require_landmarks
  tm_run
  rw [req_ok (T := T) n h]
  tm_run
  rw [are_nodes_run (T := T) (n + 3) ns (pT es) d ok, u]
  tm_run
theorem marks_net {T : Nat → Str → Fn} [H : H_require_landmarks T] (n : Nat) {d x : D} (ok : okD d = true) (h : isNetB d = false) : T (n + 6) "require_landmarks" [d, x] = .exc "InvalidNetwork" := by
  rw [H.own_require_landmarks (n + 5), fn_eq _ _ _ _ rfl]
  unfold b_require_landmarks
  tm_run
  rw [req_bad (T := T) n ok h]
  tm_run

/-! ### comprehensions whose own names stand -/
abbrev fz (o : Option D) : Option (Bool × D) := o.map fun d => (false, d)
theorem lcW {α : Type} (enc : α → D) (xs : List α) (p : α → Bool) (g : α → D) (e0 : En) {own : List Nat} {it : It} {tg : Tg} {ts : List T} {elt : X} {e : En} (hi : it.ev e = .ok (xs.map enc) e0) (hf : own.all (frozenAt e0) = true) (hb : backE e0 (wipeE e0 own) own = e0)
    (ht : ∀ x ∈ xs, lcOne own tg ts elt (enc x) (wipeE e0 own) = .ok (if p x then some (g x) else none) (wipeE e0 own)) (hl : xs.length ≤ sizeLine) : xLc own it tg ts elt e = .ok (.list ((xs.filter p).map g), true) e0 := by
  unfold xLc
  rw [hi]
  simp only [Re.bind_ok, hf, if_true]
  rw [lc_go2 enc _ xs [] ht (by simpa using hl)]
  simp [hb, filterMap_if]
theorem lcWm {α : Type} (enc : α → D) (xs : List α) (g : α → D) (e0 : En) {own : List Nat} {it : It} {tg : Tg} {ts : List T} {elt : X} {e : En} (hi : it.ev e = .ok (xs.map enc) e0) (hf : own.all (frozenAt e0) = true) (hb : backE e0 (wipeE e0 own) own = e0)
    (ht : ∀ x ∈ xs, lcOne own tg ts elt (enc x) (wipeE e0 own) = .ok (some (g x)) (wipeE e0 own)) (hl : xs.length ≤ sizeLine) : xLc own it tg ts elt e = .ok (.list (xs.map g), true) e0 := by
  have h := lcW enc xs (fun _ => true) g e0 hi hf hb (fun x hx => by rw [ht x hx]; rfl) hl
  rw [List.filter_eq_self.mpr (fun _ _ => rfl)] at h
  exact h
theorem cutL_last {α : Type} (xs : List α) : cutL xs (some (-1)) none = xs.drop (xs.length - 1) := by
  have e : HT.sIx xs.length 0 (some (-1)) = xs.length - 1 := by
    simp only [HT.sIx]
    rw [if_pos (by decide)]
    omega
  unfold cutL
  rw [e, HT.sIx_none, List.take_of_length_le (by rw [List.length_drop]; omega)]
theorem cutL_init {α : Type} (xs : List α) : cutL xs none (some (-1)) = xs.take (xs.length - 1) := by
  have e : HT.sIx xs.length xs.length (some (-1)) = xs.length - 1 := by
    simp only [HT.sIx]
    rw [if_pos (by decide)]
    omega
  unfold cutL
  rw [e, HT.sIx_none]
  simp
theorem pMul_T (xs : List D) (k : Int) (h : xs.length ≤ 1000) (h1 : 1 ≤ k) (h2 : k ≤ 1000) : pMul [.tuple xs, .int k] = some (.tuple (List.replicate k.toNat xs).flatten, false) := by
  simp [pMul, h, h1, h2]
/-! ### nodes and their neighbours -/
def wideP (ns : List Str) (es : Es) (r : List Str) : List Str := ns.filter fun x => decide (x ∈ r) || r.any (adj es x)
theorem wide_near {ns : List Str} {es : Es} (h : Pre ns es) (r : List Str) (x : Str) (hx : x ∈ ns) : decide (x ∈ r ++ r.flatMap (nbs ns es)) = (decide (x ∈ r) || r.any (adj es x)) := by
  rw [Bool.eq_iff_iff, decide_eq_true_eq, Bool.or_eq_true, decide_eq_true_eq, List.mem_append, List.mem_flatMap, List.any_eq_true]
  constructor
  · rintro (q | ⟨y, hy, q⟩)
    · exact .inl q
    · exact .inr ⟨y, hy, by rw [adj_comm]; exact (List.mem_filter.mp q).2⟩
  · rintro (q | ⟨y, hy, q⟩)
    · exact .inl q
    · exact .inr ⟨y, hy, List.mem_filter.mpr ⟨hx, by rw [adj_comm]; exact q⟩⟩
theorem wider_run {T : Nat → Str → Fn} [H : H_wider T] (n : Nat) {ns : List Str} {es : Es} (h : Pre ns es) {r : List Str} (hr : r.length ≤ 8) : T (n + 2) "wider" [net ns es, sT r] = .ok (sT (wideP ns es r)) false [] := by
  have nl := h.len
  have el := h.elen
  rw [H.own_wider (n + 1), fn_eq _ _ _ _ rfl]
  unfold b_wider
  tm_run
  generalize hq : forGo _ _ _ _ = q
  obtain ⟨e', rfl, v3, rfl⟩ : ∃ e', q = .ok .next e' ∧ ∃ v3 : Option D, e' = [some (false, net ns es), some (false, sT r), some (true, sL (r ++ r.flatMap (nbs ns es))), fz v3] := by
    rw [← hq]
    refine ex_imp (fun e hp => ?_) (for_inv PyData.str r (fun qs e => (qs.flatMap (nbs ns es)).length ≤ qs.length * 8 ∧ ∃ v3 : Option D, e = [some (false, net ns es), some (false, sT r), some (true, sL (r ++ qs.flatMap (nbs ns es))), fz v3]) _ ⟨by simp, none, by simp⟩ ?_)
    · exact hp.2
    rintro qs a zs e hx ⟨hl, v3, rfl⟩
    have fl : (nbs ns es a).length ≤ 8 := Nat.le_trans (List.length_filter_le _ _) nl
    have ql : qs.length + 1 ≤ 8 := by
      have := congrArg List.length hx
      simp only [List.length_append, List.length_cons] at this
      omega
    have e0 : (qs ++ [a]).flatMap (nbs ns es) = qs.flatMap (nbs ns es) ++ nbs ns es a := by simp
    have le : ((r ++ qs.flatMap (nbs ns es)).map PyData.str).length + ((nbs ns es a).map PyData.str).length ≤ sizeLine := by
      rw [List.length_map, List.length_map, List.length_append, sizeLine_eq]; omega
    refine ⟨[some (false, net ns es), some (false, sT r), some (true, sL (r ++ (qs ++ [a]).flatMap (nbs ns es))), fz (some (.str a))], ?_, ?_, _, rfl⟩
    · tm_run
      rw [beside_run (T := T) n es a (by omega), h.besideN]
      tm_run
      rw [e0, ← List.append_assoc]
      simp only [sL, List.map_append, fz, Option.map_some]
    · rw [e0, List.length_append, List.length_append]
      simp only [List.length_singleton]
      omega
  tm_run
  rw [lcW PyData.str ns (fun x => decide (x ∈ r ++ r.flatMap (nbs ns es))) PyData.str [some (false, net ns es), some (false, sT r), some (true, sL (r ++ r.flatMap (nbs ns es))), fz v3]]
  · tm_run
    congr 2
    unfold wideP
    rw [List.filter_congr fun x hx => wide_near h r x hx]
  · tm_run
  · cases v3 <;> rfl
  · rfl
  · intro x hx
    tm_run
  · rw [sizeLine_eq]; omega
theorem up_ok {ns : List Str} {es : Es} (h : Pre ns es) {r : List Str} (u : Up ns r) : okD (sT r) = true := ok_sT (fun a ha => h.name a (u.sub a ha)) (by have := u.len; have := h.len; omega)
theorem wide_up {ns : List Str} {es : Es} (h : Pre ns es) (r : List Str) : Up ns (wideP ns es r) := Up.sublist List.filter_sublist h.asc
theorem spread_run {T : Nat → Str → Fn} [H : H_spread T] (n : Nat) {ns : List Str} {es : Es} (h : Net ns es) {r : List Str} (u : Up ns r) : T (n + 6) "spread" [net ns es, sT r] = .ok (sT (wideP ns es r)) false [] := by
  have ul := u.len
  have nl := h.len
  rw [H.own_spread (n + 5), fn_eq _ _ _ _ rfl]
  unfold b_spread
  tm_run
  rw [req_ok (T := T) n h]
  tm_run
  rw [are_nodes_run (T := T) (n + 3) ns (pT es) (sT r) (up_ok h.toPre u), areNodesB_up u]
  tm_run
  rw [wider_run (T := T) (n + 3) h.toPre (by omega)]
  tm_run
theorem spread_bad {T : Nat → Str → Fn} [H : H_spread T] (n : Nat) {ns : List Str} {es : Es} (h : Net ns es) {d : D} (ok : okD d = true) (u : areNodesB ns d = false) : T (n + 6) "spread" [net ns es, d] = .exc "InvalidLandmarks" := by
  rw [H.own_spread (n + 5), fn_eq _ _ _ _ rfl]
  unfold b_spread
  tm_run
  rw [req_ok (T := T) n h]
  tm_run
  rw [are_nodes_run (T := T) (n + 3) ns (pT es) d ok, u]
  tm_run
theorem spread_net {T : Nat → Str → Fn} [H : H_spread T] (n : Nat) {d x : D} (ok : okD d = true) (h : isNetB d = false) : T (n + 6) "spread" [d, x] = .exc "InvalidNetwork" := by
  rw [H.own_spread (n + 5), fn_eq _ _ _ _ rfl]
  unfold b_spread
  tm_run
  rw [req_bad (T := T) n ok h]
  tm_run
theorem nodes_up {ns r : List Str} (h : areNodesB ns (sT r) = true) : Up ns r := by
  obtain ⟨s, e, u⟩ := areNodesB_iff.mp h
  rw [sT_inj e]
  exact u
theorem nodes_no {ns r : List Str} (h : ¬ Up ns r) : areNodesB ns (sT r) = false := Bool.eq_false_iff.mpr fun q => h (nodes_up q)
theorem nodes_shape {ns : List Str} {d : D} (h : ∀ xs, d ≠ .tuple xs) : areNodesB ns d = false := areNodesB_no (by rintro ⟨r, e, _⟩; exact h _ e)

/-! ### strength -/
abbrev cnt (lm r : List Str) : Nat := (r.filter fun x => decide (x ∈ lm)).length
theorem counts_run {T : Nat → Str → Fn} [H : H_counts_of T] (n : Nat) (lm : List Str) {rs : List (List Str)} (hl : rs.length ≤ 1000) (h8 : ∀ r ∈ rs, r.length ≤ 8) : T (n + 1) "counts_of" [sT lm, .list (rs.map sT)] = .ok (.list ((rs.map (cnt lm)).map nI)) true [] := by
  rw [H.own_counts_of n, fn_eq _ _ _ _ rfl]
  unfold b_counts_of
  tm_run
  rw [lcm sT rs (fun r => nI (cnt lm r))]
  · tm_run
    rw [map_nI]
  · tm_run
  · exact ⟨rfl, rfl, rfl⟩
  · intro r hr
    have := h8 r hr
    tm_run
    rw [lc PyData.str r (fun x => decide (x ∈ lm)) PyData.str]
    · tm_run
      rw [List.length_map]
      rfl
    · tm_run
    · exact ⟨rfl, rfl, rfl⟩
    · intro x hx
      tm_run
    · rw [sizeLine_eq]; omega
  · rw [sizeLine_eq]; omega
/-- the strength of landmarks, with at least two nodes -/
noncomputable abbrev strP (ns : List Str) (es : Es) (lm : List Str) : Nat := mn ((rowsP ns es).map (cnt lm))
theorem rowsP_nil {ns : List Str} {es : Es} : rowsP ns es = [] ↔ ns.length ≤ 1 := by
  rw [List.map_eq_nil_iff]
  match ns with
  | [] => simp [pairsP]
  | [x] => simp [pairsP]
  | x :: y :: zs => simp [pairsP]
noncomputable def strD (ns : List Str) (es : Es) (lm : List Str) : D := if ns.length ≤ 1 then .none else nI (strP ns es lm)
theorem strength_run {T : Nat → Str → Fn} [H : H_strength T] (n : Nat) {ns : List Str} {es : Es} (h : Net ns es) {lm : List Str} (u : Up ns lm) : T (n + 7) "strength" [net ns es, sT lm] = .ok (strD ns es lm) false [] := by
  rw [H.own_strength (n + 6), fn_eq _ _ _ _ rfl]
  unfold b_strength
  tm_run
  rw [marks_ok (T := T) n h u]
  tm_run
  unfold strD
  by_cases h1 : ns.length ≤ 1
  · rw [if_pos h1, show decide ((1 : Int) < ((List.map PyData.str ns).length : Int)) = false by rw [List.length_map]; exact decide_eq_false (by omega)]
    tm_run
  · have rne : (rowsP ns es).map (cnt lm) ≠ [] := fun q => h1 (rowsP_nil.mp (List.map_eq_nil_iff.mp q))
    rw [if_neg h1, show decide ((1 : Int) < ((List.map PyData.str ns).length : Int)) = true by rw [List.length_map]; exact decide_eq_true (by omega)]
    tm_run
    rw [sep_rows_run (T := T) (n + 2) h]
    tm_run
    rw [counts_run (T := T) (n + 5) lm (by have := rowsP_len (es := es) h.len; omega) (rowsP_8 h.len)]
    tm_run
    rw [pMin1_L rne]
    tm_run
theorem strength_bad {T : Nat → Str → Fn} [H : H_strength T] (n : Nat) {d x : D} {c : Str} (h : T (n + 6) "require_landmarks" [d, x] = .exc c) : T (n + 7) "strength" [d, x] = .exc c := by
  rw [H.own_strength (n + 6), fn_eq _ _ _ _ rfl]
  unfold b_strength
  tm_run
  rw [h]
  tm_run
noncomputable abbrev strongP (ns : List Str) (es : Es) (k : Nat) : Option (List Str) := (allch ns).find? fun r => decide (k ≤ strP ns es r)
theorem strong_run {T : Nat → Str → Fn} [H : H_smallest_strong T] (n : Nat) {ns : List Str} {es : Es} (h : Net ns es) (h2 : 2 ≤ ns.length) {k : Nat} (k1 : 1 ≤ k) (k8 : k ≤ 8) : T (n + 6) "smallest_strong" [net ns es, nI k] = .ok (oT (strongP ns es k)) false [] := by
  have nl := h.len
  have rl := rowsP_len (es := es) nl
  have s62 := small62_nat (m := ns.length + 1) (by omega)
  have rne : ∀ lm, (rowsP ns es).map (cnt lm) ≠ [] := fun lm q => by
    have := rowsP_nil.mp (List.map_eq_nil_iff.mp q)
    omega
  rw [H.own_smallest_strong (n + 5), fn_eq _ _ _ _ rfl]
  unfold b_smallest_strong
  tm_run
  rw [req_ok (T := T) n h]
  tm_run
  rw [show decide (((List.map PyData.str ns).length : Int) = 1) = false by rw [List.length_map]; exact decide_eq_false (by omega)]
  tm_run
  rw [nI_eq, integer_run (T := T) (n + 4) 1 8 (.int k) rfl, show isIntB 1 8 (.int (k : Int)) = true by simp [isIntB]; omega]
  tm_run
  rw [sep_rows_run (T := T) (n + 1) h]
  tm_run
  rw [show (((List.map PyData.str ns).length : Int) + 1) = ((ns.length + 1 : Nat) : Int) by rw [List.length_map]; omega]
  tm_run
  rw [rngD_nat]
  generalize hP : (fun r => decide (k ≤ strP ns es r)) = P
  generalize hq : forGo _ _ _ _ = r
  obtain ⟨e', ⟨b, v3, v4, rfl⟩, rfl⟩ : ∃ e', (∃ (b : Bool) (v3 v4 : Option (Bool × D)), e' = [some (false, net ns es), some (false, nI k), some (b, .list ((rowsP ns es).map sT)), v3, v4]) ∧ r = .ok (flO (fun i => oT ((chs ns i).find? P)) false ((List.range (ns.length + 1)).find? fun i => ((chs ns i).find? P).isSome)) e' := by
    rw [← hq]
    refine for_look nI (fun e => ∃ (b : Bool) (v3 v4 : Option (Bool × D)), e = [some (false, net ns es), some (false, nI k), some (b, .list ((rowsP ns es).map sT)), v3, v4]) (fun i => ((chs ns i).find? P).isSome) (fun i => oT ((chs ns i).find? P)) false _ _ ⟨_, _, _, rfl⟩ ?_
    rintro e i hi ⟨b, v3, v4, rfl⟩
    rw [List.mem_range] at hi
    tm_run
    rw [choices_run (T := T) (n + 4) h.asc nl i (by omega)]
    tm_run
    generalize hq1 : forGo _ _ _ _ = r1
    obtain ⟨e1, ⟨b1, w4, rfl⟩, rfl⟩ : ∃ e', (∃ (b : Bool) (v4 : Option (Bool × D)), e' = [some (false, net ns es), some (false, nI k), some (b, .list ((rowsP ns es).map sT)), some (false, nI i), v4]) ∧ r1 = .ok (flO sT false ((chs ns i).find? P)) e' := by
      rw [← hq1]
      refine for_look sT (fun e => ∃ (b : Bool) (v4 : Option (Bool × D)), e = [some (false, net ns es), some (false, nI k), some (b, .list ((rowsP ns es).map sT)), some (false, nI i), v4]) P sT false _ _ ⟨_, _, rfl⟩ ?_
      rintro e row hrow ⟨b, v4, rfl⟩
      tm_run
      rw [counts_run (T := T) (n + 4) row (by omega) (rowsP_8 nl)]
      tm_run
      rw [pMin1_L (rne row)]
      tm_run
      rw [pGe_nI]
      tm_run
      have pe : decide (k ≤ mn ((rowsP ns es).map (cnt row))) = P row := by rw [← hP]
      rw [pe]
      cases q : P row with
      | true => tm_run; exact ⟨_, rfl, _, _, rfl⟩
      | false => tm_run; exact ⟨_, rfl, _, _, rfl⟩
    refine ⟨[some (false, net ns es), some (false, nI k), some (b1, .list ((rowsP ns es).map sT)), some (false, nI i), w4], ?_, _, _, _, rfl⟩
    cases (chs ns i).find? P <;> rfl
  rw [show strongP ns es k = (allch ns).find? P by rw [← hP], allch, find_flat]
  cases (List.range (ns.length + 1)).find? (fun i => ((chs ns i).find? P).isSome) with
  | none => unfold flO; tm_run; rfl
  | some k => unfold flO; tm_run; rfl
theorem strong_small {T : Nat → Str → Fn} [H : H_smallest_strong T] (n : Nat) {ns : List Str} {es : Es} (h : Net ns es) (h2 : ns.length = 1) (x : D) : T (n + 6) "smallest_strong" [net ns es, x] = .exc "TooSmall" := by
  rw [H.own_smallest_strong (n + 5), fn_eq _ _ _ _ rfl]
  unfold b_smallest_strong
  tm_run
  rw [req_ok (T := T) n h]
  tm_run
  rw [show decide (((List.map PyData.str ns).length : Int) = 1) = true by rw [List.length_map]; exact decide_eq_true (by omega)]
  tm_run
theorem strong_num {T : Nat → Str → Fn} [H : H_smallest_strong T] (n : Nat) {ns : List Str} {es : Es} (h : Net ns es) (h2 : ns.length ≠ 1) {x : D} (hp : x.plain = true) (hx : isIntB 1 8 x = false) : T (n + 6) "smallest_strong" [net ns es, x] = .exc "InvalidNumber" := by
  rw [H.own_smallest_strong (n + 5), fn_eq _ _ _ _ rfl]
  unfold b_smallest_strong
  tm_run
  rw [req_ok (T := T) n h]
  tm_run
  rw [show decide (((List.map PyData.str ns).length : Int) = 1) = false by rw [List.length_map]; exact decide_eq_false (by omega)]
  tm_run
  rw [integer_run (T := T) (n + 4) 1 8 x hp, hx]
  tm_run
theorem strong_net {T : Nat → Str → Fn} [H : H_smallest_strong T] (n : Nat) {d x : D} (ok : okD d = true) (h : isNetB d = false) : T (n + 6) "smallest_strong" [d, x] = .exc "InvalidNetwork" := by
  rw [H.own_smallest_strong (n + 5), fn_eq _ _ _ _ rfl]
  unfold b_smallest_strong
  tm_run
  rw [req_bad (T := T) n ok h]
  tm_run
/-! ### the law's own rows -/
theorem subsets_run {T : Nat → Str → Fn} [H : H__law_subsets T] (n : Nat) {ns : List Str} (ha : Asc .str ns) (hl : ns.length ≤ 8) : T (n + 1) "_law_subsets" [sT ns] = .ok (.list ((allch ns).map sT)) true [] := by
  have al := allch_256 ha hl
  rw [H.own__law_subsets n, fn_eq _ _ _ _ rfl]
  unfold b__law_subsets
  tm_run
  generalize hq : forGo _ _ _ _ = r
  obtain ⟨e', rfl, v2, rfl⟩ : ∃ e', r = .ok .next e' ∧ ∃ v2 : Option (Bool × D), e' = [some (false, sT ns), some (true, .list ((sbs ns).map sT)), v2, none, none] := by
    rw [← hq]
    refine ex_imp (fun e hp => ?_) (for_inv PyData.str ns (fun qs e => qs.length ≤ ns.length ∧ (∀ r ∈ sbs qs, r.length ≤ qs.length) ∧ ∃ v2 : Option (Bool × D), e = [some (false, sT ns), some (true, .list ((sbs qs).map sT)), v2, none, none]) _ ⟨by simp, by simp [sbs], none, rfl⟩ ?_)
    · exact hp.2.2
    rintro qs a zs e hx ⟨ql, hr, v2, rfl⟩
    have ql2 : qs.length + 1 ≤ ns.length := by
      have := congrArg List.length hx
      simp only [List.length_append, List.length_cons] at this
      omega
    have s1 := sbs_256 (ns := qs) (by omega)
    have e0 : sbs (qs ++ [a]) = sbs qs ++ (sbs qs).map (· ++ [a]) := by unfold sbs; rw [List.foldl_append]; rfl
    have lw : ((sbs qs).map sT).length + ((sbs qs).map fun r => sT (r ++ [a])).length ≤ sizeLine := by rw [List.length_map, List.length_map, sizeLine_eq]; omega
    refine ⟨[some (false, sT ns), some (true, .list ((sbs (qs ++ [a])).map sT)), some (false, .str a), none, none], ?_, by simpa using ql2, ?_, _, rfl⟩
    · tm_run
      rw [lc_to sT (sbs qs) (fun _ => true) (fun r => sT (r ++ [a])) [some (false, sT ns), some (false, .list ((sbs qs).map sT)), some (false, .str a), none, none]]
      · rw [List.filter_eq_self.mpr (fun _ _ => rfl)]
        tm_run
        rw [e0, List.map_append, List.map_map]
        rfl
      · tm_run
      · exact ⟨rfl, rfl, rfl⟩
      · intro r hr'
        have := hr r hr'
        have add : pAdd [sT r, .tuple [.str a]] = some (sT (r ++ [a]), false) := by
          rw [sT, pAdd_tuple _ _ (by rw [List.length_map, sizeLine_eq]; simp; omega), sT, List.map_append]
          rfl
        tm_run
        rw [map_snoc]
      · rw [sizeLine_eq]; omega
    · rw [e0]
      intro r hr'
      rw [List.length_append, List.length_singleton]
      rcases List.mem_append.mp hr' with q | q
      · have := hr r q; omega
      · obtain ⟨s, hs, rfl⟩ := List.mem_map.mp q
        have := hr s hs
        simp; omega
  have s1 := sbs_256 hl
  tm_run
  rw [lc_to lr (allch ns) (fun _ => true) sT [some (false, sT ns), some (false, .list ((sbs ns).map sT)), v2, none, none]]
  · rw [List.filter_eq_self.mpr (fun _ _ => rfl)]
    tm_run
  · tm_run
    rw [lc_to sT (sbs ns) (fun _ => true) lr [some (false, sT ns), some (false, .list ((sbs ns).map sT)), v2, none, none]]
    · rw [List.filter_eq_self.mpr (fun _ _ => rfl)]
      tm_run
      rw [pSorted_lrL, sbs_sort ha]
      tm_run
    · tm_run
    · exact ⟨rfl, rfl, rfl⟩
    · intro r hr
      tm_run
      rw [List.length_map]
      rfl
    · rw [sizeLine_eq]; omega
  · exact ⟨rfl, rfl, rfl⟩
  · intro r hr
    unfold lr
    tm_run
  · rw [sizeLine_eq]; omega
theorem sep_in {ns : List Str} {es : Es} (lm : List Str) (u : Up ns lm) (p : Str × Str) (ha : Asc .str ns) : (lm.filter fun x => !decide (dist es x p.1 = dist es x p.2)).length = cnt lm (sepP ns es p) := by
  unfold cnt sepP
  rw [List.filter_filter]
  have perm : (lm.filter fun x => !decide (dist es x p.1 = dist es x p.2)).Perm (ns.filter fun a => decide (a ∈ lm) && !decide (dist es a p.1 = dist es a p.2)) := by
    rw [List.perm_ext_iff_of_nodup (u.asc.nodup.filter _) (ha.nodup.filter _)]
    intro x
    simp only [List.mem_filter, Bool.and_eq_true, decide_eq_true_eq]
    constructor
    · rintro ⟨h1, h2⟩
      exact ⟨u.sub x h1, h1, h2⟩
    · rintro ⟨_, h1, h2⟩
      exact ⟨h1, h2⟩
  exact perm.length_eq
theorem lstrength_run {T : Nat → Str → Fn} [H : H__law_strength T] (n : Nat) {ns : List Str} {es : Es} (h : Net ns es) {lm : List Str} (u : Up ns lm) : T (n + 2) "_law_strength" [tabD ns (dist es), sT ns, sT lm] = .ok (strD ns es lm) false [] := by
  have nl := h.len
  have ul := u.len
  have pl := pairsP_len ns nl
  rw [H.own__law_strength (n + 1), fn_eq _ _ _ _ rfl]
  unfold b__law_strength
  tm_run
  rw [lpairs_run (T := T) n h.asc nl]
  tm_run
  generalize hq : forGo _ _ _ _ = r
  obtain ⟨e', rfl, v4, rfl⟩ : ∃ e', r = .ok .next e' ∧ ∃ v4 : Option (Bool × D), e' = [some (false, tabD ns (dist es)), some (false, sT ns), some (false, sT lm), some (true, .list (((rowsP ns es).map (cnt lm)).map nI)), v4, none] := by
    rw [← hq]
    refine ex_imp (fun e hp => ?_) (for_inv pr (pairsP ns) (fun qs e => ∃ v4 : Option (Bool × D), e = [some (false, tabD ns (dist es)), some (false, sT ns), some (false, sT lm), some (true, .list (((qs.map (sepP ns es)).map (cnt lm)).map nI)), v4, none]) _ ⟨none, rfl⟩ ?_)
    · exact hp
    rintro qs p zs e hx ⟨v4, rfl⟩
    have hp : p ∈ pairsP ns := by rw [hx]; simp
    obtain ⟨h1, h2, _⟩ := (pairsP_mem h.asc).mp (show (p.1, p.2) ∈ pairsP ns from hp)
    have ql : (((qs.map (sepP ns es)).map (cnt lm)).map nI).length < sizeLine := by
      have := congrArg List.length hx
      simp only [List.length_append, List.length_cons] at this
      rw [List.length_map, List.length_map, List.length_map, sizeLine_eq]
      omega
    refine ⟨[some (false, tabD ns (dist es)), some (false, sT ns), some (false, sT lm), some (true, .list ((((qs ++ [p]).map (sepP ns es)).map (cnt lm)).map nI)), some (false, pr p), none], ?_, _, rfl⟩
    unfold pr
    tm_run
    rw [lc PyData.str lm (fun x => !decide (dist es x p.1 = dist es x p.2)) PyData.str]
    · tm_run
      rw [List.length_map, sep_in lm u p h.asc]
      simp [nI]
    · tm_run
    · exact ⟨rfl, rfl, rfl⟩
    · intro x hx
      have i1 := pIx_tab (f := dist es) (allP_mem.mpr ⟨u.sub x hx, h1⟩)
      have i2 := pIx_tab (f := dist es) (allP_mem.mpr ⟨u.sub x hx, h2⟩)
      have e1 := pNe_nat (dist es x p.1) (dist es x p.2)
      tm_run
      rw [i1]
      tm_run
      rw [i2]
      tm_run
      rw [e1]
      tm_run
    · rw [sizeLine_eq]; omega
  tm_run
  unfold strD
  by_cases h1 : ns.length ≤ 1
  · rw [if_pos h1, rowsP_nil.mpr h1]
    tm_run
  · have rne : (rowsP ns es).map (cnt lm) ≠ [] := fun q => h1 (rowsP_nil.mp (List.map_eq_nil_iff.mp q))
    rw [if_neg h1, show (!(((rowsP ns es).map (cnt lm)).map nI).isEmpty) = true by
      rw [Bool.not_eq_true', List.isEmpty_eq_false_iff]
      exact fun q => rne (List.map_eq_nil_iff.mp q)]
    tm_run
    rw [pMin1_L rne]
    tm_run

/-! ### dict(zip(..)) -/
theorem dz_fold {β : Type} (v : β → D) : ∀ (ks : List Str) (ys : List β) (S : List (Str × β)), (S.map (·.1) ++ ks).Nodup → ((ks.map PyData.str).zip (ys.map v)).foldl (fun acc p => dPut acc p.1 p.2) (S.map (kv .str v)) = (S ++ ks.zip ys).map (kv .str v)
  | [], _, S, _ => by simp
  | _ :: _, [], S, _ => by simp
  | k :: ks, y :: ys, S, nd => by
    have hn : k ∉ S.map (·.1) := by
      rw [List.nodup_append] at nd
      exact fun q => nd.2.2 _ q _ List.mem_cons_self rfl
    simp only [List.map_cons, List.zip_cons_cons, List.foldl_cons]
    rw [dPut_new key_str S k y hn, dz_fold v ks ys (S ++ [(k, y)]) (by simpa using nd)]
    simp
theorem all_flat (ks : List Str) : (ks.map PyData.str).all flatK = true := by
  rw [List.all_eq_true]
  intro x hx
  obtain ⟨a, _, rfl⟩ := List.mem_map.mp hx
  rfl
theorem pDictZip_go {β : Type} (v : β → D) (ks : List Str) (ys : List β) (A B : D) (hA : seqD A = some (ks.map PyData.str)) (hB : seqD B = some (ys.map v)) (nd : ks.Nodup) (h1 : ks.length ≤ 1000) (h2 : ys.length ≤ 1000) : pDictZip [A, B] = some (.dict ((ks.zip ys).map (kv .str v)), true) := by
  have f := dz_fold v ks ys [] (by simpa using nd)
  simp only [List.map_nil, List.nil_append] at f
  simp only [pDictZip, hA, hB, List.length_map, h1, h2, all_flat, f, decide_true, Bool.and_self, if_true]
theorem pDictZip_TL {β : Type} (v : β → D) (ks : List Str) (ys : List β) (nd : ks.Nodup) (h1 : ks.length ≤ 1000) (h2 : ys.length ≤ 1000) : pDictZip [sT ks, .list (ys.map v)] = some (.dict ((ks.zip ys).map (kv .str v)), true) := pDictZip_go v ks ys _ _ rfl rfl nd h1 h2
theorem pDictZip_TT {β : Type} (v : β → D) (ks : List Str) (ys : List β) (nd : ks.Nodup) (h1 : ks.length ≤ 1000) (h2 : ys.length ≤ 1000) : pDictZip [sT ks, .tuple (ys.map v)] = some (.dict ((ks.zip ys).map (kv .str v)), true) := pDictZip_go v ks ys _ _ rfl rfl nd h1 h2
theorem look_zip {β : Type} : ∀ {ks : List Str} {ys : List β} (i : Nat) {k : Str} {y : β}, ks.Nodup → ks[i]? = some k → ys[i]? = some y → look (ks.zip ys) k = some y
  | [], _, i, k, y, _, h, _ => by simp at h
  | _ :: _, [], i, k, y, _, _, h => by simp at h
  | x :: ks, z :: ys, 0, k, y, _, h1, h2 => by
    simp only [List.getElem?_cons_zero, Option.some.injEq] at h1 h2
    subst h1 h2
    simp [look]
  | x :: ks, z :: ys, i + 1, k, y, nd, h1, h2 => by
    simp only [List.getElem?_cons_succ] at h1 h2
    rw [List.nodup_cons] at nd
    have ne : x ≠ k := fun e => nd.1 (e ▸ List.mem_of_getElem? h1)
    have ih := look_zip i nd.2 h1 h2
    unfold look at ih ⊢
    simp only [List.zip_cons_cons, List.find?_cons, ne, decide_false]
    exact ih
theorem look_self {β : Type} {ns : List Str} (f : Str → β) (nd : ns.Nodup) {a : Str} (ha : a ∈ ns) : look (ns.zip (ns.map f)) a = some (f a) := by
  obtain ⟨i, hi⟩ := List.mem_iff_getElem?.mp ha
  exact look_zip i nd hi (by rw [List.getElem?_map, hi]; rfl)
/-! ### readings -/
noncomputable abbrev rdP (es : Es) (lm : List Str) (a : Str) : List Nat := lm.map fun x => dist es a x
theorem nT_plain (xs : List Nat) : (nT xs).plain = true := by rw [r_plain_tuple]; exact plainAll_map _ (fun n => plain_int _) xs
theorem nT_depth (xs : List Nat) : (nT xs).depth ≤ 1 := by
  rw [depth_tuple]
  have := depthAll_map_le nI (n := 0) (fun a => by rw [nI, depth_int]; exact Nat.le_refl _) xs
  omega
theorem eqv_nI (a b : Nat) : PyData.eqv (nI a) (nI b) = decide (a = b) := by
  rw [nI, nI, eqv_int]
  exact decide_eq_decide.mpr (by omega)
theorem eqv_nT (xs ys : List Nat) : PyData.eqv (nT xs) (nT ys) = decide (xs = ys) := by
  rw [eqv_tuple]
  exact eqvAll_map nI eqv_nI xs ys
theorem pEq_nT (xs ys : List Nat) : pEq [nT xs, nT ys] = some (.bool (decide (xs = ys)), false) := by
  rw [pEq_eq _ _ (nT_plain xs) (nT_plain ys) (by have := nT_depth xs; omega), eqv_nT]
theorem reading_of_run {T : Nat → Str → Fn} [H : H_reading_of T] (n : Nat) {ns : List Str} {es : Es} (h : Net ns es) {lm : List Str} (hs : ∀ x ∈ lm, x ∈ ns) (hl : lm.length ≤ 1000) {a : Str} (ha : a ∈ ns) : T (n + 3) "reading_of" [net ns es, sT lm, .str a] = .ok (nT (rdP es lm a)) false [] := by
  rw [H.own_reading_of (n + 2), fn_eq _ _ _ _ rfl]
  unfold b_reading_of
  tm_run
  rw [steps_run (T := T) n h.toPre ha]
  tm_run
  rw [lcm PyData.str lm (fun x => nI (dist es a x))]
  · tm_run
    rw [map_nI]
  · tm_run
  · exact ⟨rfl, rfl, rfl⟩
  · intro x hx
    have := pIx_steps h ha (hs x hx)
    tm_run
    rw [this]
    tm_run
  · rw [sizeLine_eq]; omega
theorem all_readings_run {T : Nat → Str → Fn} [H : H_all_readings T] (n : Nat) {ns : List Str} {es : Es} (h : Net ns es) {lm : List Str} (hs : ∀ x ∈ lm, x ∈ ns) (hl : lm.length ≤ 1000) : T (n + 4) "all_readings" [net ns es, sT lm] = .ok (.list ((ns.map (rdP es lm)).map nT)) true [] := by
  have nl := h.len
  rw [H.own_all_readings (n + 3), fn_eq _ _ _ _ rfl]
  unfold b_all_readings
  tm_run
  rw [lcm PyData.str ns (fun a => nT (rdP es lm a))]
  · tm_run
    rw [List.map_map]
    rfl
  · tm_run
  · exact ⟨rfl, rfl, rfl⟩
  · intro a ha
    tm_run
    rw [reading_of_run (T := T) n h hs hl ha]
    tm_run
  · rw [sizeLine_eq]; omega
noncomputable abbrev confP (ns : List Str) (es : Es) (lm : List Str) : List (Str × Str) := (pairsP ns).filter fun p => decide (rdP es lm p.1 = rdP es lm p.2)
theorem confused_pairs_run {T : Nat → Str → Fn} [H : H_confused_pairs T] (n : Nat) {ns : List Str} {es : Es} (h : Net ns es) {lm : List Str} (hs : ∀ x ∈ lm, x ∈ ns) (hl : lm.length ≤ 1000) : T (n + 5) "confused_pairs" [net ns es, sT lm] = .ok (pL (confP ns es lm)) true [] := by
  have nl := h.len
  have pl := pairsP_len ns nl
  rw [H.own_confused_pairs (n + 4), fn_eq _ _ _ _ rfl]
  unfold b_confused_pairs
  tm_run
  rw [all_readings_run (T := T) n h hs hl]
  tm_run
  rw [pDictZip_TL nT ns (ns.map (rdP es lm)) h.asc.nodup (by omega) (by rw [List.length_map]; omega)]
  tm_run
  generalize hq : xLc _ _ _ _ _ _ = r
  obtain ⟨e2, ⟨b, rfl⟩, rfl⟩ : ∃ e2, (∃ b, e2 = [some (false, net ns es), some (false, sT lm), some (b, .dict ((ns.zip (ns.map (rdP es lm))).map (kv .str nT))), none, none]) ∧ r = .ok (.list ((confP ns es lm).map pr), true) e2 := by
    rw [← hq]
    refine lcE (fun e => ∃ b, e = [some (false, net ns es), some (false, sT lm), some (b, .dict ((ns.zip (ns.map (rdP es lm))).map (kv .str nT))), none, none]) pr (pairsP ns) (fun p => decide (rdP es lm p.1 = rdP es lm p.2)) pr (e0 := [some (false, net ns es), some (false, sT lm), some (true, .dict ((ns.zip (ns.map (rdP es lm))).map (kv .str nT))), none, none]) ?_ ⟨_, rfl⟩ ⟨rfl, rfl⟩ ?_ ?_ ?_
    · tm_run
      rw [pairs_run (T := T) (n + 3) ns nl]
      tm_run
    · rintro e1 ⟨b, rfl⟩
      rfl
    · rintro p hp e1 ⟨b, rfl⟩
      obtain ⟨h1, h2, _⟩ := (pairsP_mem h.asc).mp (show (p.1, p.2) ∈ pairsP ns from hp)
      have i1 := pIx_dict (v := nT) key_str _ p.1 _ (look_self (rdP es lm) h.asc.nodup h1)
      have i2 := pIx_dict (v := nT) key_str _ p.2 _ (look_self (rdP es lm) h.asc.nodup h2)
      refine ⟨[some (false, net ns es), some (false, sT lm), some (b, .dict ((ns.zip (ns.map (rdP es lm))).map (kv .str nT))), none, none], ⟨b, rfl⟩, ?_⟩
      unfold pr
      tm_run
      rw [i1]
      tm_run
      rw [i2]
      tm_run
      rw [pEq_nT]
      tm_run
    · rw [sizeLine_eq]; omega
  tm_run
theorem confused_run {T : Nat → Str → Fn} [H : H_confused T] (n : Nat) {ns : List Str} {es : Es} (h : Net ns es) {lm : List Str} (u : Up ns lm) : T (n + 7) "confused" [net ns es, sT lm] = .ok (pL (confP ns es lm)) true [] := by
  rw [H.own_confused (n + 6), fn_eq _ _ _ _ rfl]
  unfold b_confused
  tm_run
  rw [marks_ok (T := T) n h u]
  tm_run
  rw [confused_pairs_run (T := T) (n + 1) h u.sub (by have := u.len; have := h.len; omega)]
  tm_run
theorem confused_bad {T : Nat → Str → Fn} [H : H_confused T] (n : Nat) {d x : D} {c : Str} (h : T (n + 6) "require_landmarks" [d, x] = .exc c) : T (n + 7) "confused" [d, x] = .exc c := by
  rw [H.own_confused (n + 6), fn_eq _ _ _ _ rfl]
  unfold b_confused
  tm_run
  rw [h]
  tm_run
theorem pEq_pLnil (a : List (Str × Str)) : pEq [.list (a.map pr), .list []] = some (.bool (decide (a = [])), false) := pEq_pL a []
theorem identifies_run {T : Nat → Str → Fn} [H : H_identifies T] (n : Nat) {ns : List Str} {es : Es} (h : Net ns es) {lm : List Str} (u : Up ns lm) : T (n + 7) "identifies" [net ns es, sT lm] = .ok (.bool (decide (confP ns es lm = []))) false [] := by
  rw [H.own_identifies (n + 6), fn_eq _ _ _ _ rfl]
  unfold b_identifies
  tm_run
  rw [marks_ok (T := T) n h u]
  tm_run
  rw [confused_pairs_run (T := T) (n + 1) h u.sub (by have := u.len; have := h.len; omega)]
  tm_run
  rw [pEq_pLnil]
  tm_run
theorem identifies_bad {T : Nat → Str → Fn} [H : H_identifies T] (n : Nat) {d x : D} {c : Str} (h : T (n + 6) "require_landmarks" [d, x] = .exc c) : T (n + 7) "identifies" [d, x] = .exc c := by
  rw [H.own_identifies (n + 6), fn_eq _ _ _ _ rfl]
  unfold b_identifies
  tm_run
  rw [h]
  tm_run
/-- two readings are the same just if no landmark separates -/
theorem rd_eq {ns : List Str} {es : Es} (h : Net ns es) {lm : List Str} (hs : ∀ x ∈ lm, x ∈ ns) {a b : Str} (ha : a ∈ ns) (hb : b ∈ ns) : rdP es lm a = rdP es lm b ↔ ∀ x ∈ lm, dist es x a = dist es x b := by
  rw [List.map_inj_left]
  constructor
  · intro q x hx
    rw [h.dist_comm (hs x hx) ha, h.dist_comm (hs x hx) hb]
    exact q x hx
  · intro q x hx
    rw [h.dist_comm ha (hs x hx), h.dist_comm hb (hs x hx)]
    exact q x hx
theorem rd_sep {ns : List Str} {es : Es} (h : Net ns es) {lm : List Str} (hs : ∀ x ∈ lm, x ∈ ns) {p : Str × Str} (hp : p ∈ pairsP ns) : rdP es lm p.1 = rdP es lm p.2 ↔ (sepP ns es p).filter (fun x => decide (x ∈ lm)) = [] := by
  obtain ⟨h1, h2, _⟩ := (pairsP_mem h.asc).mp (show (p.1, p.2) ∈ pairsP ns from hp)
  rw [rd_eq h hs h1 h2, List.filter_eq_nil_iff]
  unfold sepP
  constructor
  · intro q x hx hm
    obtain ⟨_, h4⟩ := List.mem_filter.mp hx
    rw [decide_eq_true_eq] at hm
    simp [q x hm] at h4
  · intro q x hx
    refine Decidable.byContradiction fun hn => ?_
    exact q x (List.mem_filter.mpr ⟨hs x hx, by simpa using hn⟩) (decide_eq_true hx)
/-- landmarks identify just if they meet all rows -/
theorem conf_meet {ns : List Str} {es : Es} (h : Net ns es) {lm : List Str} (hs : ∀ x ∈ lm, x ∈ ns) : decide (confP ns es lm = []) = meetB (rowsP ns es) lm := by
  rw [Bool.eq_iff_iff, decide_eq_true_eq, filt_nil, List.all_eq_true]
  constructor
  · intro q r hr
    obtain ⟨p, hp, rfl⟩ := List.mem_map.mp hr
    have := q p hp
    rw [decide_eq_false_iff_not, rd_sep h hs hp] at this
    rw [List.any_eq_true]
    rw [List.filter_eq_nil_iff] at this
    refine Decidable.byContradiction fun hn => this fun x hx hm => hn ⟨x, hx, hm⟩
  · intro q p hp
    rw [decide_eq_false_iff_not, rd_sep h hs hp, List.filter_eq_nil_iff]
    intro hn
    have := q _ (List.mem_map.mpr ⟨p, hp, rfl⟩)
    rw [List.any_eq_true] at this
    obtain ⟨x, hx, hm⟩ := this
    exact hn x hx hm
theorem separators_run {T : Nat → Str → Fn} [H : H_separators T] (n : Nat) {ns : List Str} {es : Es} (h : Net ns es) {a b : Str} (ha : a ∈ ns) (hb : b ∈ ns) : T (n + 6) "separators" [net ns es, .str a, .str b] = .ok (sT (sepP ns es (a, b))) false [] := by
  rw [H.own_separators (n + 5), fn_eq _ _ _ _ rfl]
  unfold b_separators
  tm_run
  rw [req_ok (T := T) n h]
  tm_run
  rw [node_ok (T := T) (n + 4) ha]
  tm_run
  rw [node_ok (T := T) (n + 4) hb]
  tm_run
  rw [table_of_run (T := T) (n + 2) h.toPre]
  tm_run
  rw [parting_run (T := T) (n + 4) h ha hb]
  tm_run
theorem separators_one {T : Nat → Str → Fn} [H : H_separators T] (n : Nat) {ns : List Str} {es : Es} (h : Net ns es) {x y : D} (ok : okD x = true) (hx : isNodeB ns x = false) : T (n + 6) "separators" [net ns es, x, y] = .exc "InvalidNode" := by
  rw [H.own_separators (n + 5), fn_eq _ _ _ _ rfl]
  unfold b_separators
  tm_run
  rw [req_ok (T := T) n h]
  tm_run
  rw [node_bad (T := T) (n + 4) ok hx]
  tm_run
theorem separators_two {T : Nat → Str → Fn} [H : H_separators T] (n : Nat) {ns : List Str} {es : Es} (h : Net ns es) {a : Str} (ha : a ∈ ns) {y : D} (ok : okD y = true) (hx : isNodeB ns y = false) : T (n + 6) "separators" [net ns es, .str a, y] = .exc "InvalidNode" := by
  rw [H.own_separators (n + 5), fn_eq _ _ _ _ rfl]
  unfold b_separators
  tm_run
  rw [req_ok (T := T) n h]
  tm_run
  rw [node_ok (T := T) (n + 4) ha]
  tm_run
  rw [node_bad (T := T) (n + 4) ok hx]
  tm_run
theorem sep_swap (ns : List Str) (es : Es) (a b : Str) : sepP ns es (b, a) = sepP ns es (a, b) := by
  unfold sepP
  apply List.filter_congr
  intro x _
  congr 1
  exact decide_eq_decide.mpr eq_comm
theorem sep_self (ns : List Str) (es : Es) (a : Str) : sepP ns es (a, a) = [] := by
  unfold sepP
  rw [filt_nil]
  intro x _
  simp
theorem sep_up {ns : List Str} {es : Es} (h : Pre ns es) (p : Str × Str) : Up ns (sepP ns es p) := Up.sublist List.filter_sublist h.asc

/-! ### observed distances -/
/-- a number from 0 to 9, or None -/
def seenB : D → Bool
  | .none => true
  | .int i => decide (0 ≤ i) && decide (i ≤ 9)
  | _ => false
def isN : D → Bool
  | .none => true
  | _ => false
def obsB (k : Nat) : D → Bool
  | .tuple xs => decide (xs.length = k) && xs.all seenB
  | _ => false
theorem seenB_eq (d : D) : seenB d = (isN d || isIntB 0 9 d) := by
  cases d <;> rfl
theorem observed_run {T : Nat → Str → Fn} [H : H_are_observed T] (n : Nat) (lm : List Str) (d : D) (ok : okD d = true) : T (n + 2) "are_observed" [sT lm, d] = .ok (.bool (obsB lm.length d)) false [] := by
  have hp := ok_plain d ok
  rw [H.own_are_observed (n + 1), fn_eq _ _ _ _ rfl]
  unfold b_are_observed
  cases d with
  | tuple xs =>
    obtain ⟨hl, hok⟩ := ok_tuple.mp ok
    tm_run
    rw [show (!decide ((xs.length : Int) = ((List.map PyData.str lm).length : Int))) = !decide (xs.length = lm.length) by rw [List.length_map]; congr 1; exact decide_eq_decide.mpr (by omega)]
    unfold obsB
    cases q : decide (xs.length = lm.length) with
    | false => tm_run; rw [q]; rfl
    | true =>
      tm_run
      rw [lcm (fun x : D => x) xs (fun x => .bool (seenB x))]
      · tm_run
        rw [q, Bool.true_and]
      · tm_run
        rw [List.map_id']
      · exact ⟨rfl, rfl, rfl⟩
      · intro z hz
        have zo := hok z hz
        have hz' := ok_plain z zo
        have ir := integer_run (T := T) n 0 9 z hz'
        cases z with
        | none => tm_run; rfl
        | dict _ => rw [okD] at zo; cases zo
        | _ => tm_run; rw [ir]; tm_run; rfl
      · rw [sizeLine_eq]; omega
  | dict _ => rw [okD] at ok; cases ok
  | _ => tm_run; rfl
theorem lobserved_run {T : Nat → Str → Fn} [H : H__law_are_observed T] (n : Nat) (lm : List Str) (d : D) (ok : okD d = true) : T (n + 1) "_law_are_observed" [sT lm, d] = .ok (.bool (obsB lm.length d)) false [] := by
  have hp := ok_plain d ok
  rw [H.own__law_are_observed n, fn_eq _ _ _ _ rfl]
  unfold b__law_are_observed
  cases d with
  | tuple xs =>
    obtain ⟨hl, hok⟩ := ok_tuple.mp ok
    tm_run
    rw [show (!decide ((xs.length : Int) = ((List.map PyData.str lm).length : Int))) = !decide (xs.length = lm.length) by rw [List.length_map]; congr 1; exact decide_eq_decide.mpr (by omega)]
    unfold obsB
    cases q : decide (xs.length = lm.length) with
    | false => tm_run; rw [q]; rfl
    | true =>
      tm_run
      rw [lc (fun x : D => x) xs (fun x => !isN x) (fun x => x)]
      rotate_left
      · tm_run
        rw [List.map_id']
      · exact ⟨rfl, rfl, rfl⟩
      · intro z hz
        cases z <;> (tm_run; rfl)
      · rw [sizeLine_eq]; omega
      tm_run
      have fl := List.length_filter_le (fun x => !isN x) xs
      rw [lc_to (fun x : D => x) (xs.filter fun x => !isN x) (fun x => !isIntB 0 9 x) (fun x => x) [some (false, sT lm), some (false, .tuple xs), some (false, .list ((xs.filter fun x => !isN x).map fun x => x)), none]]
      rotate_left
      · tm_run
      · exact ⟨rfl, rfl, rfl⟩
      · intro z hz
        have hzx := (List.mem_filter.mp hz).1
        have zo := hok z hzx
        have zp := ok_plain z zo
        cases z with
        | int i =>
          tm_run
          cases q1 : decide ((0 : Int) ≤ i) with
          | false => tm_run; simp [isIntB, q1]
          | true =>
            tm_run
            simp only [isIntB, q1, Bool.true_and]
            try (cases q2 : decide (i ≤ 9) <;> tm_run)
        | dict _ => rw [okD] at zo; cases zo
        | _ => tm_run; rfl
      · rw [sizeLine_eq]; omega
      tm_run
      rw [List.map_id', List.map_id', q, Bool.true_and]
      have pe : ∀ ys : List D, (∀ y ∈ ys, y.plain = true) → pEq [.list ys, .list []] = some (.bool ys.isEmpty, false) := by
        intro ys hy
        rw [pEq_eq _ _ (by rw [r_plain_list, plainAll_iff]; exact hy) (by rw [r_plain_list]; rfl) (by rw [depth_list [], depthAll_nil]; omega), eqv_list]
        cases ys <;> rfl
      rw [pe _ (fun y hy => ok_plain y (hok y (List.mem_filter.mp (List.mem_filter.mp hy).1).1))]
      tm_run
      congr 2
      rw [Bool.eq_iff_iff, List.isEmpty_iff, filt_nil, List.all_eq_true]
      constructor
      · intro hh x hx
        rw [seenB_eq]
        cases q2 : isN x with
        | true => rfl
        | false =>
          have := hh x (List.mem_filter.mpr ⟨hx, by rw [q2]; rfl⟩)
          simpa using this
      · intro hh x hx
        obtain ⟨h1, h2⟩ := List.mem_filter.mp hx
        have := hh x h1
        rw [seenB_eq] at this
        rw [Bool.not_eq_true'] at h2
        rw [h2, Bool.false_or] at this
        rw [this]
        rfl
  | dict _ => rw [okD] at ok; cases ok
  | _ => tm_run; rfl
/-! ### fitting -/
theorem number_ok {T : Nat → Str → Fn} [H : H_require_number T] (n : Nat) {k : Nat} (hk : k ≤ 8) : T (n + 2) "require_number" [nI k] = .ok .none false [] := by
  rw [H.own_require_number (n + 1), fn_eq _ _ _ _ rfl]
  unfold b_require_number
  tm_run
  rw [nI_eq, integer_run (T := T) n 0 8 (.int k) rfl, show isIntB 0 8 (.int (k : Int)) = true by simp [isIntB]; omega]
  tm_run
theorem number_bad {T : Nat → Str → Fn} [H : H_require_number T] (n : Nat) {x : D} (hp : x.plain = true) (h : isIntB 0 8 x = false) : T (n + 2) "require_number" [x] = .exc "InvalidNumber" := by
  rw [H.own_require_number (n + 1), fn_eq _ _ _ _ rfl]
  unfold b_require_number
  tm_run
  rw [integer_run (T := T) n 0 8 x hp, h]
  tm_run
/-- an observed distance -/
def oN : Option Nat → D
  | some k => nI k
  | none => .none
abbrev oL (xs : List (Option Nat)) : D := .tuple (xs.map oN)
abbrev missB (p : Nat × Option Nat) : Bool := match p.2 with
  | some k => !decide (k = p.1)
  | none => false
def missN (row : List Nat) (seen : List (Option Nat)) : Nat := ((row.zip seen).filter missB).length
theorem zipD_mapL {α β : Type} (f : α → D) (g : β → D) : ∀ (xs : List α) (ys : List β), zipD (xs.map f) (ys.map g) = (xs.zip ys).map fun p => .tuple [f p.1, g p.2]
  | [], _ => by simp [zipD]
  | x :: xs, [] => by simp [zipD]
  | x :: xs, y :: ys => by simp [zipD, zipD_mapL f g xs ys]
theorem errors_run {T : Nat → Str → Fn} [H : H_errors_in T] (n : Nat) (row : List Nat) (seen : List (Option Nat)) (hl : row.length ≤ 1000) : T (n + 1) "errors_in" [nT row, oL seen] = .ok (nI (missN row seen)) false [] := by
  rw [H.own_errors_in n, fn_eq _ _ _ _ rfl]
  unfold b_errors_in
  tm_run
  rw [lc (fun p : Nat × Option Nat => .tuple [nI p.1, oN p.2]) (row.zip seen) missB (fun _ => .int 1)]
  · tm_run
    rw [List.length_map]
    rfl
  · tm_run
    rw [zipD_mapL]
  · exact ⟨rfl, rfl, rfl⟩
  · rintro ⟨a, o⟩ hp
    cases o with
    | none =>
      simp only [oN, missB]
      tm_run
    | some k =>
      simp only [oN, missB]
      have e : pNe [nI k, nI a] = some (.bool (!decide (k = a)), false) := pNe_nat k a
      tm_run
      unfold nI at e ⊢
      tm_run
      rw [show (!decide ((k : Int) = (a : Int))) = !decide (k = a) by congr 1; exact decide_eq_decide.mpr (by omega)]
  · rw [List.length_zip, sizeLine_eq]; omega
noncomputable def fitP (ns : List Str) (es : Es) (lm : List Str) (seen : List (Option Nat)) (w : Nat) : List Str := ns.filter fun a => decide (missN (rdP es lm a) seen ≤ w)
theorem fitting_nodes_run {T : Nat → Str → Fn} [H : H_fitting_nodes T] (n : Nat) {ns : List Str} {es : Es} (h : Net ns es) {lm : List Str} (u : Up ns lm) (seen : List (Option Nat)) (w : Nat) : T (n + 4) "fitting_nodes" [net ns es, sT lm, oL seen, nI w] = .ok (sL (fitP ns es lm seen w)) false [] := by
  have nl := h.len
  have ul := u.len
  rw [H.own_fitting_nodes (n + 3), fn_eq _ _ _ _ rfl]
  unfold b_fitting_nodes
  tm_run
  generalize hq : forGo _ _ _ _ = r
  obtain ⟨e', rfl, v5, rfl⟩ : ∃ e', r = .ok .next e' ∧ ∃ v5 : Option (Bool × D), e' = [some (false, net ns es), some (false, sT lm), some (false, oL seen), some (false, nI w), some (true, sL (fitP ns es lm seen w)), v5] := by
    rw [← hq]
    refine for_inv PyData.str ns (fun qs e => ∃ v5 : Option (Bool × D), e = [some (false, net ns es), some (false, sT lm), some (false, oL seen), some (false, nI w), some (true, sL (qs.filter fun a => decide (missN (rdP es lm a) seen ≤ w))), v5]) _ ⟨none, rfl⟩ ?_
    rintro qs a zs e hx ⟨v5, rfl⟩
    have ha : a ∈ ns := by rw [hx]; simp
    have ql : qs.length + 1 ≤ 8 := by
      have := congrArg List.length hx
      simp only [List.length_append, List.length_cons] at this
      omega
    have fl := List.length_filter_le (fun a => decide (missN (rdP es lm a) seen ≤ w)) qs
    have ll : ((qs.filter fun a => decide (missN (rdP es lm a) seen ≤ w)).map PyData.str).length < sizeLine := by rw [List.length_map, sizeLine_eq]; omega
    tm_run
    rw [reading_of_run (T := T) n h u.sub (by omega) ha]
    tm_run
    rw [errors_run (T := T) (n + 2) _ seen (by rw [List.length_map]; omega)]
    tm_run
    rw [pLe_nI]
    tm_run
    rw [List.filter_append]
    cases q : decide (missN (rdP es lm a) seen ≤ w) with
    | true =>
      rw [show [a].filter (fun a => decide (missN (rdP es lm a) seen ≤ w)) = [a] from List.filter_cons_of_pos q]
      tm_run
      exact ⟨_, rfl, _, by simp [sL]; rfl⟩
    | false =>
      rw [show [a].filter (fun a => decide (missN (rdP es lm a) seen ≤ w)) = [] from List.filter_cons_of_neg (by rw [q]; exact Bool.false_ne_true), List.append_nil]
      tm_run
      exact ⟨_, rfl, _, rfl⟩
  tm_run
theorem obs_oL {xs : List (Option Nat)} {k : Nat} (hl : xs.length = k) (h9 : ∀ i, some i ∈ xs → i ≤ 9) : obsB k (oL xs) = true := by
  show (decide ((xs.map oN).length = k) && (xs.map oN).all seenB) = true
  rw [List.length_map, hl, decide_eq_true rfl, Bool.true_and, List.all_eq_true]
  intro x hx
  obtain ⟨o, ho, rfl⟩ := List.mem_map.mp hx
  cases o with
  | none => rfl
  | some i =>
    have := h9 i ho
    simp [oN, nI, seenB]
    omega
theorem oL_ok {xs : List (Option Nat)} (hl : xs.length ≤ 1000) : okD (oL xs) = true := by
  rw [ok_tuple]
  refine ⟨by rw [List.length_map]; exact hl, fun x hx => ?_⟩
  obtain ⟨o, _, rfl⟩ := List.mem_map.mp hx
  cases o <;> rfl
theorem fitting_run {T : Nat → Str → Fn} [H : H_fitting T] (n : Nat) {ns : List Str} {es : Es} (h : Net ns es) {lm : List Str} (u : Up ns lm) {seen : List (Option Nat)} (hl : seen.length = lm.length) (h9 : ∀ i, some i ∈ seen → i ≤ 9) {w : Nat} (hw : w ≤ 8) : T (n + 7) "fitting" [net ns es, sT lm, oL seen, nI w] = .ok (sL (fitP ns es lm seen w)) false [] := by
  have ul := u.len
  have nl := h.len
  rw [H.own_fitting (n + 6), fn_eq _ _ _ _ rfl]
  unfold b_fitting
  tm_run
  rw [marks_ok (T := T) n h u]
  tm_run
  rw [observed_run (T := T) (n + 4) lm (oL seen) (oL_ok (by omega)), obs_oL hl h9]
  tm_run
  rw [number_ok (T := T) (n + 4) hw]
  tm_run
  rw [fitting_nodes_run (T := T) (n + 2) h u seen w]
  tm_run
theorem fitting_obs {T : Nat → Str → Fn} [H : H_fitting T] (n : Nat) {ns : List Str} {es : Es} (h : Net ns es) {lm : List Str} (u : Up ns lm) {d x : D} (ok : okD d = true) (hd : obsB lm.length d = false) : T (n + 7) "fitting" [net ns es, sT lm, d, x] = .exc "InvalidObserved" := by
  rw [H.own_fitting (n + 6), fn_eq _ _ _ _ rfl]
  unfold b_fitting
  tm_run
  rw [marks_ok (T := T) n h u]
  tm_run
  rw [observed_run (T := T) (n + 4) lm d ok, hd]
  tm_run
theorem fitting_num {T : Nat → Str → Fn} [H : H_fitting T] (n : Nat) {ns : List Str} {es : Es} (h : Net ns es) {lm : List Str} (u : Up ns lm) {d x : D} (ok : okD d = true) (hd : obsB lm.length d = true) (hp : x.plain = true) (hx : isIntB 0 8 x = false) : T (n + 7) "fitting" [net ns es, sT lm, d, x] = .exc "InvalidNumber" := by
  rw [H.own_fitting (n + 6), fn_eq _ _ _ _ rfl]
  unfold b_fitting
  tm_run
  rw [marks_ok (T := T) n h u]
  tm_run
  rw [observed_run (T := T) (n + 4) lm d ok, hd]
  tm_run
  rw [number_bad (T := T) (n + 4) hp hx]
  tm_run
theorem fitting_marks {T : Nat → Str → Fn} [H : H_fitting T] (n : Nat) {d x y z : D} {c : Str} (h : T (n + 6) "require_landmarks" [d, x] = .exc c) : T (n + 7) "fitting" [d, x, y, z] = .exc c := by
  rw [H.own_fitting (n + 6), fn_eq _ _ _ _ rfl]
  unfold b_fitting
  tm_run
  rw [h]
  tm_run

/-! ### bent things -/
mutual
/-- within bounds: lengths, numbers -/
def bd (s j : Nat) : D → Bool
  | .none | .bool _ => true
  | .int i => decide (i.natAbs ≤ j)
  | .str t => decide (t.length ≤ 50)
  | .list xs | .tuple xs => decide (xs.length ≤ s) && bdAll s j xs
  | .dict _ => false
def bdAll (s j : Nat) : List D → Bool
  | [] => true
  | x :: xs => bd s j x && bdAll s j xs
end
theorem bdAll_iff {s j : Nat} : ∀ xs : List D, bdAll s j xs = true ↔ ∀ x ∈ xs, bd s j x = true
  | [] => by simp [bdAll]
  | x :: xs => by simp [bdAll, bdAll_iff xs]
theorem bd_tuple {s j : Nat} {xs : List D} : bd s j (.tuple xs) = true ↔ xs.length ≤ s ∧ ∀ x ∈ xs, bd s j x = true := by
  rw [bd, Bool.and_eq_true, decide_eq_true_eq, bdAll_iff]
theorem bd_list {s j : Nat} {xs : List D} : bd s j (.list xs) = true ↔ xs.length ≤ s ∧ ∀ x ∈ xs, bd s j x = true := by
  rw [bd, Bool.and_eq_true, decide_eq_true_eq, bdAll_iff]
mutual
theorem bd_mono {s s' j j' : Nat} (hs : s ≤ s') (hj : j ≤ j') : ∀ d : D, bd s j d = true → bd s' j' d = true
  | .none, _ => rfl
  | .bool _, _ => rfl
  | .int i, h => by rw [bd, decide_eq_true_eq] at *; omega
  | .str t, h => h
  | .list xs, h => by
    rw [bd, Bool.and_eq_true, decide_eq_true_eq] at *
    exact ⟨by omega, bdAll_mono hs hj xs h.2⟩
  | .tuple xs, h => by
    rw [bd, Bool.and_eq_true, decide_eq_true_eq] at *
    exact ⟨by omega, bdAll_mono hs hj xs h.2⟩
  | .dict _, h => by rw [bd] at h; cases h
theorem bdAll_mono {s s' j j' : Nat} (hs : s ≤ s') (hj : j ≤ j') : ∀ xs : List D, bdAll s j xs = true → bdAll s' j' xs = true
  | [], _ => rfl
  | x :: xs, h => by
    rw [bdAll, Bool.and_eq_true] at *
    exact ⟨bd_mono hs hj x h.1, bdAll_mono hs hj xs h.2⟩
end
mutual
theorem bd_ok {s j : Nat} (hs : s ≤ 1000) : ∀ d : D, bd s j d = true → okD d = true
  | .none, _ => rfl
  | .bool _, _ => rfl
  | .int i, h => rfl
  | .str t, h => by rw [bd, decide_eq_true_eq] at h; rw [okD, decide_eq_true_eq]; omega
  | .list xs, h => by
    rw [bd, Bool.and_eq_true, decide_eq_true_eq] at h
    rw [okD, Bool.and_eq_true, decide_eq_true_eq]
    exact ⟨by omega, bdAll_ok hs xs h.2⟩
  | .tuple xs, h => by
    rw [bd, Bool.and_eq_true, decide_eq_true_eq] at h
    rw [okD, Bool.and_eq_true, decide_eq_true_eq]
    exact ⟨by omega, bdAll_ok hs xs h.2⟩
  | .dict _, h => by rw [bd] at h; cases h
theorem bdAll_ok {s j : Nat} (hs : s ≤ 1000) : ∀ xs : List D, bdAll s j xs = true → okAll xs = true
  | [], _ => rfl
  | x :: xs, h => by
    rw [bdAll, Bool.and_eq_true] at h
    rw [okAll, Bool.and_eq_true]
    exact ⟨bd_ok hs x h.1, bdAll_ok hs xs h.2⟩
end
mutual
/-- no True or False where tuples lead -/
def nbD : D → Bool
  | .bool _ => false
  | .tuple xs => nbAll xs
  | _ => true
def nbAll : List D → Bool
  | [] => true
  | x :: xs => nbD x && nbAll xs
end
theorem nbAll_iff : ∀ xs : List D, nbAll xs = true ↔ ∀ x ∈ xs, nbD x = true
  | [] => by simp [nbAll]
  | x :: xs => by simp [nbAll, nbAll_iff xs]
def baseL : List D := [.none, .bool true, .bool false, .int 0, .int 1, .int (-1), .int 3, .int 10, .str "a", .str "b", .str "", .str "A", .str "abcd", .tuple [], .list [],
  .tuple [.str "a"], .tuple [.str "a", .str "b"], .tuple [.str "b", .str "a"], .tuple [.str "a", .int 2], .tuple [.str "a", .str "b", .str "c"]]
theorem base_bd {s j : Nat} (hs : 5 ≤ s) (hj : 10 ≤ j) : ∀ x ∈ baseL, bd s j x = true := by
  intro x hx
  have : ∀ x ∈ baseL, bd 5 10 x = true := by
    intro x hx
    simp only [baseL, List.mem_cons, List.not_mem_nil, or_false] at hx
    rcases hx with rfl | rfl | rfl | rfl | rfl | rfl | rfl | rfl | rfl | rfl | rfl | rfl | rfl | rfl | rfl | rfl | rfl | rfl | rfl | rfl <;> decide +kernel
  exact bd_mono hs hj x (this x hx)
theorem str_int_len : ∀ i : Int, i.natAbs ≤ 100 → (toString i : Str).length ≤ 50 := by
  have h1 : ∀ k : Nat, k < 101 → ((toString (k : Int) : Str)).length ≤ 50 := by decide +kernel
  have h2 : ∀ k : Nat, k < 101 → ((toString (-(k : Int)) : Str)).length ≤ 50 := by decide +kernel
  intro i hi
  rcases Int.natAbs_eq i with e | e
  · rw [e]; exact h1 _ (by omega)
  · rw [e]; exact h2 _ (by omega)
theorem pStr_int (i : Int) (h : i.natAbs ≤ 100) : pStr [.int i] = some (.str (toString i), false) := by
  have : i.natAbs.log2 < 1920 := by
    have := Nat.log2_le_self i.natAbs
    omega
  simp [pStr, this]
theorem bent {T : Nat → Str → Fn} [H : H__law_bent T] {s j : Nat} (s5 : 5 ≤ s) (s9 : s ≤ 900) (j1 : 10 ≤ j) (j9 : j ≤ 90) {sc : List Int} (hs : sc.length ≤ 1000) : ∀ (k : Nat) (x : D), bd s j x = true → nbD x = true → x.depth ≤ k → ∀ (n m : Nat) (d : D), StN m d → m + 4 * (k + 1) ≤ 10000000 →
    ∃ y d', bd (s + 1) (j + 1) y = true ∧ StN (m + 4 * (k + 1)) d' ∧ T (n + k + 3) "_law_bent" [Ints sc, d, x] = .ok y false [d'] := by
  have base : ∀ y ∈ baseL, bd (s + 1) (j + 1) y = true := base_bd (by omega) (by omega)
  intro k
  induction k using Nat.strongRecOn with
  | ind k ih =>
    intro x hb hn hd n m d sd hm
    have hp := ok_plain x (bd_ok (by omega) x hb)
    rw [H.own__law_bent (n + k + 2), fn_eq _ _ _ _ rfl]
    unfold b__law_bent
    cases x with
    | bool b => rw [nbD] at hn; cases hn
    | dict _ => rw [bd] at hb; cases hb
    | none =>
      obtain ⟨y, d2, hy, s2, r2⟩ := pick (T := T) (n + k) hs sd baseL _ (.inl rfl) (by simp [baseL]) (by omega)
      refine ⟨y, d2, base y hy, s2.mono (by omega), ?_⟩
      tm_run
      erw [r2]
      tm_run
    | str t =>
      obtain ⟨y, d2, hy, s2, r2⟩ := pick (T := T) (n + k) hs sd baseL _ (.inl rfl) (by simp [baseL]) (by omega)
      refine ⟨y, d2, base y hy, s2.mono (by omega), ?_⟩
      tm_run
      erw [r2]
      tm_run
    | list xs =>
      obtain ⟨y, d2, hy, s2, r2⟩ := pick (T := T) (n + k) hs sd baseL _ (.inl rfl) (by simp [baseL]) (by omega)
      refine ⟨y, d2, base y hy, s2.mono (by omega), ?_⟩
      tm_run
      erw [r2]
      tm_run
    | int i =>
      rw [bd, decide_eq_true_eq] at hb
      obtain ⟨y, d2, hy, s2, r2⟩ := pick (T := T) (n + k) hs sd (baseL ++ ([.int (i + 1), .int (i - 1), .bool (!(i != 0)), .tuple [.int i], .str (toString i)] ++ [.int (i + 1), .int (i - 1), .bool (!(i != 0)), .tuple [.int i], .str (toString i)])) _ (.inl rfl) (by simp [baseL]) (by omega)
      refine ⟨y, d2, ?_, s2.mono (by omega), ?_⟩
      · have five : ∀ y ∈ [PyData.int (i + 1), .int (i - 1), .bool (!(i != 0)), .tuple [.int i], .str (toString i)], bd (s + 1) (j + 1) y = true := by
          intro y hy
          simp only [List.mem_cons, List.not_mem_nil, or_false] at hy
          rcases hy with rfl | rfl | rfl | rfl | rfl
          · rw [bd, decide_eq_true_eq]; omega
          · rw [bd, decide_eq_true_eq]; omega
          · rfl
          · rw [bd_tuple]
            refine ⟨by simp, fun z hz => ?_⟩
            rw [List.mem_singleton] at hz
            rw [hz, bd, decide_eq_true_eq]; omega
          · rw [bd, decide_eq_true_eq]; exact str_int_len i (by omega)
        rcases List.mem_append.mp hy with q | q
        · exact base y q
        · rcases List.mem_append.mp q with q | q <;> exact five y q
      · have ps := pStr_int i (by omega)
        have pm : ∀ L : List D, L.length ≤ 1000 → pMul [.list L, .int 2] = some (.list (L ++ L), true) := by
          intro L hL
          have e1 : small63 2 = true := by decide
          have e2 : L.length * (2 : Int).toNat ≤ sizeLine := by
            show L.length * 2 ≤ _
            rw [sizeLine_eq]; omega
          show (if small63 2 && decide (L.length * (2 : Int).toNat ≤ sizeLine) then some (PyData.list (List.replicate (2 : Int).toNat L).flatten, true) else none) = _
          rw [e1, decide_eq_true e2]
          simp [show (2 : Int).toNat = 2 from rfl, List.replicate_succ]
        tm_run
        rw [ps]
        tm_run
        rw [pm _ (by simp)]
        tm_run
        erw [r2]
        tm_run
    | tuple xs =>
      obtain ⟨hl, hx⟩ := bd_tuple.mp hb
      rw [nbD, nbAll_iff] at hn
      rw [depth_tuple] at hd
      have many : ∀ y ∈ baseL ++ [PyData.list xs, .tuple (xs.take (xs.length - 1)), .tuple (xs ++ xs.drop (xs.length - 1)), .tuple (xs.drop 1), .tuple xs.reverse, .tuple (xs ++ [.none])], bd (s + 1) (j + 1) y = true := by
        have up : ∀ z ∈ xs, bd (s + 1) (j + 1) z = true := fun z hz => bd_mono (by omega) (by omega) z (hx z hz)
        intro y hy
        rcases List.mem_append.mp hy with q | q
        · exact base y q
        · simp only [List.mem_cons, List.not_mem_nil, or_false] at q
          rcases q with rfl | rfl | rfl | rfl | rfl | rfl
          · exact bd_list.mpr ⟨by omega, up⟩
          · exact bd_tuple.mpr ⟨by rw [List.length_take]; omega, fun z hz => up z (List.mem_of_mem_take hz)⟩
          · refine bd_tuple.mpr ⟨by rw [List.length_append, List.length_drop]; omega, fun z hz => ?_⟩
            rcases List.mem_append.mp hz with hz | hz
            · exact up z hz
            · exact up z (List.mem_of_mem_drop hz)
          · exact bd_tuple.mpr ⟨by rw [List.length_drop]; omega, fun z hz => up z (List.mem_of_mem_drop hz)⟩
          · exact bd_tuple.mpr ⟨by rw [List.length_reverse]; omega, fun z hz => up z (List.mem_reverse.mp hz)⟩
          · refine bd_tuple.mpr ⟨by rw [List.length_append]; simp; omega, fun z hz => ?_⟩
            rcases List.mem_append.mp hz with hz | hz
            · exact up z hz
            · rw [List.mem_singleton] at hz; rw [hz]; rfl
      have l1 : xs.length + (xs.drop (xs.length - 1)).length ≤ sizeLine := by rw [List.length_drop, sizeLine_eq]; omega
      cases xs with
      | nil =>
        obtain ⟨y, d2, hy, s2, r2⟩ := pick (T := T) (n + k) hs sd (baseL ++ [PyData.list [], .tuple [], .tuple [], .tuple [], .tuple [], .tuple [.none]]) _ (.inl rfl) (by simp [baseL]) (by omega)
        refine ⟨y, d2, many y hy, s2.mono (by omega), ?_⟩
        tm_run
        rw [cutL_init, cutL_last]
        tm_run
        erw [r2]
        tm_run
      | cons z zs =>
        obtain ⟨r, d1, hr, sd1, r1⟩ := draw (T := T) (n + k + 1) hs sd 4 (by omega) (by omega)
        by_cases r0 : (r : Int) = 0
        · obtain ⟨y, d2, hy, s2, r2⟩ := pick (T := T) (n + k) hs sd1 (baseL ++ [PyData.list (z :: zs), .tuple ((z :: zs).take ((z :: zs).length - 1)), .tuple ((z :: zs) ++ (z :: zs).drop ((z :: zs).length - 1)), .tuple ((z :: zs).drop 1), .tuple (z :: zs).reverse, .tuple ((z :: zs) ++ [.none])]) _ (.inl rfl) (by simp [baseL]) (by omega)
          refine ⟨y, d2, many y hy, s2.mono (by omega), ?_⟩
          tm_run
          rw [r1]
          tm_run
          rw [decide_eq_true r0]
          tm_run
          rw [cutL_init, cutL_last, pAdd_tuple _ _ l1]
          tm_run
          erw [r2]
          tm_run
        · obtain ⟨k', rfl⟩ : ∃ k', k = k' + 1 := ⟨k - 1, by omega⟩
          obtain ⟨t, d2, ht, s2, r2⟩ := draw (T := T) (n + (k' + 1) + 1) hs sd1 ((z :: zs).length : Int) (by simp; omega) (by omega)
          have tl : t < (z :: zs).length := by omega
          have hz : (z :: zs)[t]'tl ∈ z :: zs := List.getElem_mem tl
          have dz : ((z :: zs)[t]'tl).depth ≤ k' := by
            have : ∀ {ys : List D} {y : D}, y ∈ ys → y.depth ≤ PyData.depthAll ys := by
              intro ys
              induction ys with
              | nil => intro y h; cases h
              | cons w ws ih2 =>
                intro y h
                rw [depthAll_cons]
                rcases List.mem_cons.mp h with rfl | h
                · omega
                · have := ih2 h; omega
            have := this hz
            omega
          obtain ⟨y, d3, hy, s3, r3⟩ := ih k' (by omega) _ (hx _ hz) (hn _ hz) dz n (m + 2 + 2) d2 s2 (by omega)
          have ix : pIx [.tuple (z :: zs), .int (t : Int)] = some ((z :: zs)[t]'tl, false) := pIx_tn _ t _ (List.getElem?_eq_getElem tl)
          refine ⟨.tuple ((z :: zs).take t ++ [y] ++ (z :: zs).drop (t + 1)), d3, ?_, s3.mono (by omega), ?_⟩
          · rw [bd_tuple]
            refine ⟨by rw [List.length_append, List.length_append, List.length_take, List.length_drop]; simp only [List.length_singleton]; omega, fun w hw => ?_⟩
            rcases List.mem_append.mp hw with q | q
            · rcases List.mem_append.mp q with q | q
              · exact bd_mono (by omega) (by omega) w (hx w (List.mem_of_mem_take q))
              · rw [List.mem_singleton] at q; rw [q]; exact hy
            · exact bd_mono (by omega) (by omega) w (hx w (List.mem_of_mem_drop q))
          · have l5 : ((z :: zs).take t).length + [y].length ≤ sizeLine := by rw [List.length_take, sizeLine_eq]; simp only [List.length_singleton]; omega
            have l6 : ((z :: zs).take t ++ [y]).length + ((z :: zs).drop (t + 1)).length ≤ sizeLine := by rw [List.length_append, List.length_take, List.length_drop, sizeLine_eq]; simp only [List.length_singleton]; omega
            generalize hzs : z :: zs = xs at *
            have ne : xs.isEmpty = false := by rw [← hzs]; rfl
            tm_run
            rw [ne]
            tm_run
            rw [r1]
            tm_run
            rw [decide_eq_false r0]
            tm_run
            rw [r2]
            tm_run
            rw [ix]
            tm_run
            rw [show n + (k' + 1) + 2 = n + k' + 3 by omega, r3]
            tm_run
            rw [show ((t : Int) + 1) = ((t + 1 : Nat) : Int) by omega]
            tm_run

theorem fitting_or_exc {T : Nat → Str → Fn} [H : H__law_fitting_or T] (n : Nat) {d x y z : D} {c : Str} (h : T (n + 7) "fitting" [d, x, y, z] = .exc c) (hc : c = "InvalidNetwork" ∨ c = "InvalidLandmarks" ∨ c = "InvalidObserved" ∨ c = "InvalidNumber") : T (n + 8) "_law_fitting_or" [d, x, y, z] = .ok (.str c) false [] := by
  rw [H.own__law_fitting_or (n + 7), fn_eq _ _ _ _ rfl]
  unfold b__law_fitting_or
  tm_run
  rw [h]
  rcases hc with rfl | rfl | rfl | rfl <;> tm_run
theorem miss_zip (es : Es) (a : Str) : ∀ (lm : List Str) (seen : List (Option Nat)), ((lm.zip seen).filter fun p => missB (dist es a p.1, p.2)).length = missN (rdP es lm a) seen
  | [], _ => rfl
  | _ :: _, [] => rfl
  | x :: lm, o :: seen => by
    have ih := miss_zip es a lm seen
    unfold missN at *
    simp only [List.zip_cons_cons, List.map_cons]
    cases q : missB (dist es a x, o) with
    | true => rw [List.filter_cons_of_pos (by exact q), List.filter_cons_of_pos (by exact q), List.length_cons, List.length_cons, ih]
    | false => rw [List.filter_cons_of_neg (by rw [q]; exact Bool.false_ne_true), List.filter_cons_of_neg (by rw [q]; exact Bool.false_ne_true), ih]
theorem oN_plain (o : Option Nat) : (oN o).plain = true := by cases o <;> rfl
theorem law21 {T : Nat → Str → Fn} [H : H_law_k21 T] (n : Nat) (sc : List Int) (hs : sc.length ≤ 63) : T (n + 9) "law" [Ints sc] = .ok (.bool true) false [] := by
  rw [H.own_law_k21 (n + 8), fn_eq _ _ _ _ rfl]
  unfold b_law_k21
  tm_run
  rw [show rngD 0 7 = (List.range 7).map nI from rfl]
  generalize hq : forGo _ _ _ _ = r
  obtain ⟨e', rfl, d, v2, v3, v4, v5, v6, v7, v8, v9, v10, v11, v12, v13, v14, v15, _, rfl⟩ : ∃ e', r = .ok .next e' ∧ ∃ (d : D) (v2 v3 v4 v5 v6 v7 v8 v9 v10 v11 v12 v13 v14 v15 : Option (Bool × D)), StN (3000 * 7) d ∧ e' = [some (false, Ints sc), some (true, d), v2, v3, v4, v5, v6, v7, v8, v9, v10, v11, v12, v13, v14, v15, none, none] := by
    rw [← hq]
    refine for_range nI 7 (fun i e => ∃ (d : D) (v2 v3 v4 v5 v6 v7 v8 v9 v10 v11 v12 v13 v14 v15 : Option (Bool × D)), StN (3000 * i) d ∧ e = [some (false, Ints sc), some (true, d), v2, v3, v4, v5, v6, v7, v8, v9, v10, v11, v12, v13, v14, v15, none, none]) _ ⟨_, _, _, _, _, _, _, _, _, _, _, _, _, _, _, st0, rfl⟩ ?_
    rintro i e hi ⟨d, v2, v3, v4, v5, v6, v7, v8, v9, v10, v11, v12, v13, v14, v15, hd, rfl⟩
    obtain ⟨ns, es, d1, h, _, in8, s1, r1⟩ := network (T := T) (n + 5) (sc := sc) (by omega) hd 8 (by omega) (by omega) (by omega)
    have nl := h.len
    obtain ⟨lm, d2, sl, s2, r2⟩ := subset (T := T) (n + 6) (sc := sc) (by omega) s1 ns (by omega) (by omega)
    have u : Up ns lm := Up.sublist sl h.asc
    have ul := u.len
    obtain ⟨x3, d3, hx3, s3, r3⟩ := pick (T := T) (n + 6) (sc := sc) (by omega) s2 (ns.map PyData.str) _ (.inr rfl) (by simp [h.ne]) (by omega)
    obtain ⟨hid, hhid, rfl⟩ := List.mem_map.mp hx3
    have tb : tabD ns (floyd ns es) = tabD ns (dist es) := tabD_congr fun a ha b hb => h.floyd ha hb
    tm_run
    erw [r1]
    tm_run
    rw [table_run (T := T) (n + 7) h.toPre, tb]
    tm_run
    rw [r2]
    tm_run
    rw [r3]
    tm_run
    generalize hq1 : forGo _ _ _ _ = q
    obtain ⟨e1, rfl, seen, d4, w5, sl4, h9, s4, rfl⟩ : ∃ e', q = .ok .next e' ∧ ∃ (seen : List (Option Nat)) (d4 : D) (v5 : Option (Bool × D)), seen.length = lm.length ∧ (∀ i, some i ∈ seen → i ≤ 9) ∧ StN (3000 * i + 1100) d4 ∧ e' = [some (false, Ints sc), some (true, d4), some (false, nI i), some (false, net ns es), some (true, .list (seen.map oN)), v5, v6, v7, some (false, tabD ns (dist es)), some (false, sT ns), some (false, sT lm), some (false, .str hid), v12, v13, v14, v15, none, none] := by
      rw [← hq1]
      refine ex_imp (fun e hp => ?_) (for_inv PyData.str lm (fun qs e => ∃ (seen : List (Option Nat)) (d4 : D) (v5 : Option (Bool × D)), seen.length = qs.length ∧ (∀ i, some i ∈ seen → i ≤ 9) ∧ StN (3000 * i + 1020 + 4 * qs.length) d4 ∧ e = [some (false, Ints sc), some (true, d4), some (false, nI i), some (false, net ns es), some (true, .list (seen.map oN)), v5, v6, v7, some (false, tabD ns (dist es)), some (false, sT ns), some (false, sT lm), some (false, .str hid), v12, v13, v14, v15, none, none]) _ ⟨[], d3, _, rfl, by simp, s3.mono (by simp; omega), rfl⟩ ?_)
      · obtain ⟨seen, d4, v5, h1, h2, h3, rfl⟩ := hp
        exact ⟨seen, d4, v5, h1, h2, h3.mono (by omega), rfl⟩
      rintro qs a zs e hx ⟨seen, d4, v5, h1, h2, h3, rfl⟩
      have ha : a ∈ ns := u.sub a (by rw [hx]; simp)
      have ql : qs.length + 1 ≤ 8 := by
        have := congrArg List.length hx
        simp only [List.length_append, List.length_cons] at this
        omega
      have ix := pIx_tab (f := dist es) (allP_mem.mpr ⟨ha, hhid⟩)
      have d7 := h.dist_le ha hhid
      obtain ⟨r, d5, hr, s5, r5⟩ := draw (T := T) (n + 7) (sc := sc) (by omega) h3 10 (by omega) (by omega)
      obtain ⟨y, d6, hy, s6, r6⟩ := pick (T := T) (n + 6) (sc := sc) (by omega) s5 ((List.replicate 4 (nI (dist es a hid))) ++ [.none, .int (r : Int)]) _ (.inl rfl) (by simp) (by omega)
      obtain ⟨o, rfl, ho⟩ : ∃ o, y = oN o ∧ ∀ i, o = some i → i ≤ 9 := by
        rcases List.mem_append.mp hy with q | q
        · have := List.eq_of_mem_replicate q
          exact ⟨some (dist es a hid), this, fun i e => by cases e; omega⟩
        · simp only [List.mem_cons, List.not_mem_nil, or_false] at q
          rcases q with q | q
          · exact ⟨none, q, fun i e => by cases e⟩
          · exact ⟨some r, q, fun i e => by cases e; omega⟩
      have pm : pMul [.list [nI (dist es a hid)], .int 4] = some (.list (List.replicate 4 (nI (dist es a hid))), true) := by
        have e2 : [nI (dist es a hid)].length * (4 : Int).toNat ≤ sizeLine := by rw [sizeLine_eq]; show 1 * 4 ≤ 16777216; omega
        show (if small63 4 && decide ([nI (dist es a hid)].length * (4 : Int).toNat ≤ sizeLine) then some (PyData.list (List.replicate (4 : Int).toNat [nI (dist es a hid)]).flatten, true) else none) = _
        rw [show small63 4 = true by decide, decide_eq_true e2]
        rfl
      have ll : (seen.map oN).length < sizeLine := by rw [List.length_map, sizeLine_eq]; omega
      refine ⟨[some (false, Ints sc), some (true, d6), some (false, nI i), some (false, net ns es), some (true, .list ((seen ++ [o]).map oN)), some (false, .str a), v6, v7, some (false, tabD ns (dist es)), some (false, sT ns), some (false, sT lm), some (false, .str hid), v12, v13, v14, v15, none, none], ?_, seen ++ [o], d6, _, by simp [h1], ?_, s6.mono (by simp; omega), rfl⟩
      · tm_run
        rw [ix]
        tm_run
        rw [pm]
        tm_run
        rw [r5]
        tm_run
        erw [r6]
        tm_run
        rw [List.map_append]
        rfl
      · intro j hj
        rcases List.mem_append.mp hj with q | q
        · exact h2 j q
        · rw [List.mem_singleton] at q
          exact ho j q.symm
    clear hq1
    obtain ⟨w, d5, hw, s5, r5⟩ := draw (T := T) (n + 7) (sc := sc) (by omega) s4 4 (by omega) (by omega)
    tm_run
    rw [r5]
    tm_run
    generalize hq2 : forGo _ _ _ _ = q
    obtain ⟨e2, rfl, b4, w5, w14, rfl⟩ : ∃ e', q = .ok .next e' ∧ ∃ (b4 : Bool) (v5 v14 : Option (Bool × D)), e' = [some (false, Ints sc), some (true, d5), some (false, nI i), some (false, net ns es), some (b4, .list (seen.map oN)), v5, v6, v7, some (false, tabD ns (dist es)), some (false, sT ns), some (false, sT lm), some (false, .str hid), some (false, nI w), some (true, sL (fitP ns es lm seen w)), v14, v15, none, none] := by
      rw [← hq2]
      refine for_inv PyData.str ns (fun qs e => ∃ (b4 : Bool) (v5 v14 : Option (Bool × D)), e = [some (false, Ints sc), some (true, d5), some (false, nI i), some (false, net ns es), some (b4, .list (seen.map oN)), v5, v6, v7, some (false, tabD ns (dist es)), some (false, sT ns), some (false, sT lm), some (false, .str hid), some (false, nI w), some (true, sL (qs.filter fun a => decide (missN (rdP es lm a) seen ≤ w))), v14, v15, none, none]) _ ⟨true, _, _, rfl⟩ ?_
      rintro qs a zs e hx ⟨b4, v5, v14, rfl⟩
      have ha : a ∈ ns := by rw [hx]; simp
      have ql : qs.length + 1 ≤ 8 := by
        have := congrArg List.length hx
        simp only [List.length_append, List.length_cons] at this
        omega
      have fl := List.length_filter_le (fun a => decide (missN (rdP es lm a) seen ≤ w)) qs
      have ll : ((qs.filter fun a => decide (missN (rdP es lm a) seen ≤ w)).map PyData.str).length + 1 ≤ sizeLine := by rw [List.length_map, sizeLine_eq]; omega
      tm_run
      rw [lc_to (fun p : Str × Option Nat => .tuple [.str p.1, oN p.2]) (lm.zip seen) (fun p => missB (dist es a p.1, p.2)) (fun _ => .int 1) [some (false, Ints sc), some (true, d5), some (false, nI i), some (false, net ns es), some (false, .list (seen.map oN)), some (false, .str a), v6, v7, some (false, tabD ns (dist es)), some (false, sT ns), some (false, sT lm), some (false, .str hid), some (false, nI w), some (true, sL (qs.filter fun a => decide (missN (rdP es lm a) seen ≤ w))), v14, v15, none, none]]
      rotate_left
      · tm_run
        rw [zipD_mapL]
      · exact ⟨rfl, rfl, rfl⟩
      · rintro ⟨b, o⟩ hp
        have hb : b ∈ ns := u.sub b (List.of_mem_zip hp).1
        have ix := pIx_tab (f := dist es) (allP_mem.mpr ⟨ha, hb⟩)
        cases o with
        | none =>
          simp only [oN, missB]
          tm_run
        | some k =>
          simp only [oN, missB]
          have e : pNe [nI k, nI (dist es a b)] = some (.bool (!decide (k = dist es a b)), false) := pNe_nat k _
          rw [show nI k = PyData.int (k : Int) from rfl] at e ⊢
          tm_run
          rw [ix]
          tm_run
          rw [e]
          tm_run
      · rw [List.length_zip, sizeLine_eq]; omega
      tm_run
      rw [show PyData.int (((List.filter (fun p => missB (dist es a p.1, p.2)) (lm.zip seen)).map fun _ => PyData.int 1).length : Int) = nI (missN (rdP es lm a) seen) by rw [List.length_map, miss_zip]; rfl, pLe_nI]
      tm_run
      rw [List.filter_append]
      cases q : decide (missN (rdP es lm a) seen ≤ w) with
      | true =>
        rw [show [a].filter (fun a => decide (missN (rdP es lm a) seen ≤ w)) = [a] from List.filter_cons_of_pos q]
        tm_run
        exact ⟨_, rfl, false, _, _, by simp only [sL, List.map_append]; rfl⟩
      | false =>
        rw [show [a].filter (fun a => decide (missN (rdP es lm a) seen ≤ w)) = [] from List.filter_cons_of_neg (by rw [q]; exact Bool.false_ne_true), List.append_nil]
        tm_run
        exact ⟨_, rfl, false, _, _, rfl⟩
    clear hq2
    tm_run
    rw [show PyData.tuple (seen.map oN) = oL seen from rfl, fitting_run (T := T) (n + 1) h u sl4 h9 (show w ≤ 8 by omega)]
    tm_run
    have l8 : seen.length ≤ 8 := by omega
    have oks : okD (oL seen) = true := oL_ok (by omega)
    have obs := obs_oL sl4 h9
    have ll1 : (seen.map oN).length + 1 ≤ sizeLine := by rw [List.length_map, sizeLine_eq]; omega
    have ll2 : 1 + ((seen.map oN).drop 1).length ≤ sizeLine := by rw [List.length_drop, List.length_map, sizeLine_eq]; omega
    have bds : bd 8 10 (oL seen) = true := by
      rw [bd_tuple]
      refine ⟨by rw [List.length_map]; exact l8, fun x hx => ?_⟩
      obtain ⟨o, ho, rfl⟩ := List.mem_map.mp hx
      cases o with
      | none => rfl
      | some k =>
        have := h9 k ho
        rw [oN, nI, bd, decide_eq_true_eq]
        omega
    have nbs' : nbD (oL seen) = true := by
      rw [nbD, nbAll_iff]
      intro x hx
      obtain ⟨o, _, rfl⟩ := List.mem_map.mp hx
      cases o <;> rfl
    have dps : (oL seen).depth ≤ 1 := by
      rw [depth_tuple]
      have := depthAll_map_le oN (n := 0) (fun o => by cases o <;> exact Nat.le_refl _) seen
      omega
    obtain ⟨y, d6, by', s6, r6⟩ := bent (T := T) (s := 8) (j := 10) (by omega) (by omega) (by omega) (by omega) (sc := sc) (by omega) 1 (oL seen) bds nbs' dps (n + 4) _ d5 s5 (by omega)
    have oky : okD y = true := bd_ok (by omega) y by'
    rw [show PyData.tuple (List.map oN seen) = oL seen from rfl, r6]
    tm_run
    have okz : ∀ z ∈ (seen.map oN), okD z = true := (ok_tuple.mp oks).2
    generalize hq3 : forGo _ _ _ _ = q
    obtain ⟨e3, rfl, w7, w15, rfl⟩ : ∃ e', q = .ok .next e' ∧ ∃ (v7 v15 : Option (Bool × D)), e' = [some (false, Ints sc), some (true, d6), some (false, nI i), some (false, net ns es), some (false, oL seen), w5, some (true, .list [.tuple (seen.map oN ++ [.int 0]), .tuple ((seen.map oN).drop 1), .list (seen.map oN), .tuple (.int 10 :: (seen.map oN).drop 1), .tuple (.int (-1) :: (seen.map oN).drop 1), .tuple (.bool true :: (seen.map oN).drop 1)]), v7, some (false, tabD ns (dist es)), some (false, sT ns), some (false, sT lm), some (false, .str hid), some (false, nI w), some (true, sL (fitP ns es lm seen w)), w14, v15, none, none] := by
      rw [← hq3]
      refine for_allD _ (fun e => ∃ (v7 v15 : Option (Bool × D)), e = [some (false, Ints sc), some (true, d6), some (false, nI i), some (false, net ns es), some (false, oL seen), w5, some (true, .list [.tuple (seen.map oN ++ [.int 0]), .tuple ((seen.map oN).drop 1), .list (seen.map oN), .tuple (.int 10 :: (seen.map oN).drop 1), .tuple (.int (-1) :: (seen.map oN).drop 1), .tuple (.bool true :: (seen.map oN).drop 1)]), v7, some (false, tabD ns (dist es)), some (false, sT ns), some (false, sT lm), some (false, .str hid), some (false, nI w), some (true, sL (fitP ns es lm seen w)), w14, v15, none, none]) _ ⟨_, _, rfl⟩ ?_
      rintro x hx' e ⟨v7, v15, rfl⟩
      have good : okD x = true := by
        have dr : ∀ z ∈ (seen.map oN).drop 1, okD z = true := fun z hz => okz z (List.mem_of_mem_drop hz)
        have dl : ((seen.map oN).drop 1).length ≤ 8 := by rw [List.length_drop, List.length_map]; omega
        simp only [List.mem_cons, List.not_mem_nil, or_false, List.mem_append] at hx'
        rcases hx' with rfl | rfl | rfl | rfl | rfl | rfl | rfl
        · refine ok_tuple.mpr ⟨by rw [List.length_append, List.length_map]; simp; omega, fun z hz => ?_⟩
          rcases List.mem_append.mp hz with hz | hz
          · exact okz z hz
          · rw [List.mem_singleton] at hz; rw [hz]; rfl
        · exact ok_tuple.mpr ⟨by omega, dr⟩
        · exact ok_list.mpr ⟨by rw [List.length_map]; omega, okz⟩
        · refine ok_tuple.mpr ⟨by rw [List.length_cons]; omega, fun z hz => ?_⟩
          rcases List.mem_cons.mp hz with rfl | hz
          · rfl
          · exact dr z hz
        · refine ok_tuple.mpr ⟨by rw [List.length_cons]; omega, fun z hz => ?_⟩
          rcases List.mem_cons.mp hz with rfl | hz
          · rfl
          · exact dr z hz
        · refine ok_tuple.mpr ⟨by rw [List.length_cons]; omega, fun z hz => ?_⟩
          rcases List.mem_cons.mp hz with rfl | hz
          · rfl
          · exact dr z hz
        · exact oky
      tm_run
      rw [lobserved_run (T := T) (n + 7) lm x good]
      tm_run
      cases q : obsB lm.length x with
      | false =>
        tm_run
        rw [fitting_or_exc (T := T) n (fitting_obs (T := T) n h u good q) (.inr (.inr (.inl rfl)))]
        tm_run
        exact ⟨_, rfl, _, _, rfl⟩
      | true =>
        have num := fitting_or_exc (T := T) n (fitting_num (T := T) n h u (x := .int (-1)) good q (plain_int _) rfl) (.inr (.inr (.inr rfl)))
        tm_run
        rw [num]
        tm_run
        rw [show decide (("InvalidNumber" : Str) = "InvalidObserved") = false by decide +kernel]
        tm_run
        rw [num]
        tm_run
        exact ⟨_, rfl, _, _, rfl⟩
    clear hq3
    tm_run
    generalize hq4 : forGo _ _ _ _ = q
    obtain ⟨e4, rfl, w7', rfl⟩ : ∃ e', q = .ok .next e' ∧ ∃ (v7 : Option (Bool × D)), e' = [some (false, Ints sc), some (true, d6), some (false, nI i), some (false, net ns es), some (false, oL seen), w5, some (true, .list [.tuple (seen.map oN ++ [.int 0]), .tuple ((seen.map oN).drop 1), .list (seen.map oN), .tuple (.int 10 :: (seen.map oN).drop 1), .tuple (.int (-1) :: (seen.map oN).drop 1), .tuple (.bool true :: (seen.map oN).drop 1)]), v7, some (false, tabD ns (dist es)), some (false, sT ns), some (false, sT lm), some (false, .str hid), some (false, nI w), some (true, sL (fitP ns es lm seen w)), w14, w15, none, none] := by
      rw [← hq4]
      refine for_allD _ (fun e => ∃ (v7 : Option (Bool × D)), e = [some (false, Ints sc), some (true, d6), some (false, nI i), some (false, net ns es), some (false, oL seen), w5, some (true, .list [.tuple (seen.map oN ++ [.int 0]), .tuple ((seen.map oN).drop 1), .list (seen.map oN), .tuple (.int 10 :: (seen.map oN).drop 1), .tuple (.int (-1) :: (seen.map oN).drop 1), .tuple (.bool true :: (seen.map oN).drop 1)]), v7, some (false, tabD ns (dist es)), some (false, sT ns), some (false, sT lm), some (false, .str hid), some (false, nI w), some (true, sL (fitP ns es lm seen w)), w14, w15, none, none]) _ ⟨_, rfl⟩ ?_
      rintro x hx' e ⟨v7, rfl⟩
      have good : x.plain = true ∧ isIntB 0 8 x = false := by
        simp only [List.mem_cons, List.not_mem_nil, or_false] at hx'
        rcases hx' with rfl | rfl | rfl | rfl | rfl
        · exact ⟨plain_int _, by decide⟩
        · exact ⟨plain_int _, by decide⟩
        · exact ⟨plain_none, rfl⟩
        · exact ⟨plain_bool _, rfl⟩
        · exact ⟨plain_str _, rfl⟩
      tm_run
      rw [fitting_or_exc (T := T) n (fitting_num (T := T) n h u oks obs good.1 good.2) (.inr (.inr (.inr rfl)))]
      tm_run
      exact ⟨_, rfl, _, rfl⟩
    clear hq4
    have l3 : (lm.map PyData.str).length + (lm.map PyData.str).length ≤ sizeLine := by rw [List.length_map, sizeLine_eq]; omega
    have l4 : (lm.map PyData.str ++ lm.map PyData.str).length + 1 ≤ sizeLine := by rw [List.length_append, List.length_map, sizeLine_eq]; omega
    tm_run
    rw [show List.map PyData.str lm ++ List.map PyData.str lm ++ [PyData.str "zz"] = (lm ++ lm ++ [("zz" : Str)]).map PyData.str by simp]
    have bad : areNodesB ns (sT (lm ++ lm ++ [("zz" : Str)])) = false := nodes_no fun q => by
      have : ("zz" : Str) ∉ eight := by decide +kernel
      exact this (in8 _ (q.sub "zz" (by simp)))
    have okz' : okD (sT (lm ++ lm ++ [("zz" : Str)])) = true := by
      refine ok_sT (fun a ha => ?_) (by simp; omega)
      rcases List.mem_append.mp ha with ha | ha
      · rcases List.mem_append.mp ha with ha | ha
        · exact h.name a (u.sub a ha)
        · exact h.name a (u.sub a ha)
      · rw [List.mem_singleton] at ha; rw [ha]; unfold NameP; decide +kernel
    rw [fitting_or_exc (T := T) n (fitting_marks (T := T) n (marks_bad (T := T) n h okz' bad)) (.inr (.inl rfl))]
    tm_run
    exact ⟨_, rfl, d6, _, _, _, _, _, _, _, _, _, _, _, _, _, _, s6.mono (by omega), rfl⟩
  tm_run

end G6
namespace G6
open PySem PySem.Spec L2
def top_k21 (i : Nat) : Stmt := PySem.Challenge.pw_landmarks_k21_fitting_by_hand.main.body.getD i (.Pass ⟨0, 0, 0, 0⟩)
def d_k21_is_integer : Df := ⟨"is_integer", ["candidate", "least", "most"], ["candidate", "least", "most"], [false, false, false], top_k21 7, b_is_integer⟩
def d_k21_is_ascending : Df := ⟨"is_ascending", ["row", "one", "other"], ["row"], [false], top_k21 8, b_is_ascending⟩
def d_k21_is_name : Df := ⟨"is_name", ["candidate", "sign"], ["candidate"], [false], top_k21 9, b_is_name⟩
def d_k21_are_names : Df := ⟨"are_names", ["candidate", "one"], ["candidate"], [false], top_k21 10, b_are_names⟩
def d_k21_is_pair : Df := ⟨"is_pair", ["nodes", "candidate", "one"], ["nodes", "candidate"], [false, false], top_k21 11, b_is_pair⟩
def d_k21_beside : Df := ⟨"beside", ["edges", "node", "one", "other"], ["edges", "node"], [false, false], top_k21 12, b_beside⟩
def d_k21_steps_from : Df := ⟨"steps_from", ["network", "node", "found", "last", "count", "wave", "one", "other"], ["network", "node"], [false, false], top_k21 13, b_steps_from⟩
def d_k21_is_connected : Df := ⟨"is_connected", ["network"], ["network"], [false], top_k21 14, b_is_connected⟩
def d_k21_is_network : Df := ⟨"is_network", ["candidate", "nodes", "edges", "edge"], ["candidate"], [false], top_k21 15, b_is_network⟩
def d_k21_require_network : Df := ⟨"require_network", ["network"], ["network"], [false], top_k21 16, b_require_network⟩
def d_k21_are_nodes : Df := ⟨"are_nodes", ["network", "candidate", "one"], ["network", "candidate"], [false, false], top_k21 18, b_are_nodes⟩
def d_k21_require_landmarks : Df := ⟨"require_landmarks", ["network", "landmarks"], ["network", "landmarks"], [false, false], top_k21 19, b_require_landmarks⟩
def d_k21_reading_of : Df := ⟨"reading_of", ["network", "landmarks", "node", "steps", "landmark"], ["network", "landmarks", "node"], [false, false, false], top_k21 20, b_reading_of⟩
def d_k21_are_observed : Df := ⟨"are_observed", ["landmarks", "candidate", "one"], ["landmarks", "candidate"], [false, false], top_k21 22, b_are_observed⟩
def d_k21_errors_in : Df := ⟨"errors_in", ["row", "observed", "number", "seen"], ["row", "observed"], [false, false], top_k21 23, b_errors_in⟩
def d_k21_fitting_nodes : Df := ⟨"fitting_nodes", ["network", "landmarks", "observed", "wrong", "found", "node"], ["network", "landmarks", "observed", "wrong"], [false, false, false, false], top_k21 24, b_fitting_nodes⟩
def d_k21_require_number : Df := ⟨"require_number", ["candidate"], ["candidate"], [false], top_k21 25, b_require_number⟩
def d_k21_fitting : Df := ⟨"fitting", ["network", "landmarks", "observed", "wrong"], ["network", "landmarks", "observed", "wrong"], [false, false, false, false], top_k21 26, b_fitting⟩
def d_k21__law_draw : Df := ⟨"_law_draw", ["script", "state", "many", "k", "cell", "digits", "number", "more"], ["script", "state", "many"], [false, true, false], top_k21 28, b__law_draw⟩
def d_k21__law_pick : Df := ⟨"_law_pick", ["script", "state", "some"], ["script", "state", "some"], [false, true, false], top_k21 29, b__law_pick⟩
def d_k21__law_shuffled : Df := ⟨"_law_shuffled", ["script", "state", "things", "rest", "found"], ["script", "state", "things"], [false, true, false], top_k21 30, b__law_shuffled⟩
def d_k21__law_bent : Df := ⟨"_law_bent", ["script", "state", "thing", "at", "some"], ["script", "state", "thing"], [false, true, false], top_k21 31, b__law_bent⟩
def d_k21__law_network : Df := ⟨"_law_network", ["script", "state", "most", "some", "order", "spot", "k", "names", "edges", "two"], ["script", "state", "most"], [false, true, false], top_k21 32, b__law_network⟩
def d_k21__law_table : Df := ⟨"_law_table", ["network", "found", "one", "middle", "other", "near", "way"], ["network"], [false], top_k21 33, b__law_table⟩
def d_k21__law_subset : Df := ⟨"_law_subset", ["script", "state", "nodes", "node"], ["script", "state", "nodes"], [false, true, false], top_k21 34, b__law_subset⟩
def d_k21__law_are_observed : Df := ⟨"_law_are_observed", ["some", "thing", "seen", "one"], ["some", "thing"], [false, false], top_k21 35, b__law_are_observed⟩
def d_k21__law_fitting_or : Df := ⟨"_law_fitting_or", ["network", "marks", "seen", "wrong"], ["network", "marks", "seen", "wrong"], [false, false, false, false], top_k21 36, b__law_fitting_or⟩
def d_k21_law : Df := ⟨"law", ["script", "state", "k", "network", "row", "node", "things", "thing", "table", "nodes", "some", "hidden", "wrong", "due", "misses", "bad", "other", "seen"], ["script"], [false], top_k21 37, b_law_k21⟩
def ds_k21 : List Df := ([d_k21_is_integer, d_k21_is_ascending, d_k21_is_name, d_k21_are_names, d_k21_is_pair, d_k21_beside, d_k21_steps_from, d_k21_is_connected, d_k21_is_network, d_k21_require_network, d_k21_are_nodes, d_k21_require_landmarks, d_k21_reading_of, d_k21_are_observed, d_k21_errors_in, d_k21_fitting_nodes, d_k21_require_number, d_k21_fitting, d_k21__law_draw, d_k21__law_pick, d_k21__law_shuffled, d_k21__law_bent, d_k21__law_network, d_k21__law_table, d_k21__law_subset] : List Df) ++ ([d_k21__law_are_observed, d_k21__law_fitting_or, d_k21_law] : List Df)
def L_k21 : Lw := ⟨ds_k21, ["ValueError", "abs", "all", "bool", "int", "isinstance", "len", "list", "max", "min", "range", "set", "sorted", "str", "tuple", "zip"], ["InvalidNetwork", "InvalidLandmarks", "InvalidNumber", "InvalidObserved"], fun x => if x = "InvalidNetwork" then ["InvalidNetwork"] else if x = "InvalidLandmarks" then ["InvalidLandmarks"] else if x = "InvalidNumber" then ["InvalidNumber"] else if x = "InvalidObserved" then ["InvalidObserved"] else []⟩
theorem c_k21_is_integer (F : Str → Fn) : compSs (compS 60 60) (scOf L_k21 d_k21_is_integer F) (defBody d_k21_is_integer.st) = some (d_k21_is_integer.b F) := by kernel_rfl
theorem c_k21_is_ascending (F : Str → Fn) : compSs (compS 60 60) (scOf L_k21 d_k21_is_ascending F) (defBody d_k21_is_ascending.st) = some (d_k21_is_ascending.b F) := by kernel_rfl
theorem c_k21_is_name (F : Str → Fn) : compSs (compS 60 60) (scOf L_k21 d_k21_is_name F) (defBody d_k21_is_name.st) = some (d_k21_is_name.b F) := by kernel_rfl
theorem c_k21_are_names (F : Str → Fn) : compSs (compS 60 60) (scOf L_k21 d_k21_are_names F) (defBody d_k21_are_names.st) = some (d_k21_are_names.b F) := by kernel_rfl
theorem c_k21_is_pair (F : Str → Fn) : compSs (compS 60 60) (scOf L_k21 d_k21_is_pair F) (defBody d_k21_is_pair.st) = some (d_k21_is_pair.b F) := by kernel_rfl
theorem c_k21_beside (F : Str → Fn) : compSs (compS 60 60) (scOf L_k21 d_k21_beside F) (defBody d_k21_beside.st) = some (d_k21_beside.b F) := by kernel_rfl
theorem c_k21_steps_from (F : Str → Fn) : compSs (compS 60 60) (scOf L_k21 d_k21_steps_from F) (defBody d_k21_steps_from.st) = some (d_k21_steps_from.b F) := by kernel_rfl
theorem c_k21_is_connected (F : Str → Fn) : compSs (compS 60 60) (scOf L_k21 d_k21_is_connected F) (defBody d_k21_is_connected.st) = some (d_k21_is_connected.b F) := by kernel_rfl
theorem c_k21_is_network (F : Str → Fn) : compSs (compS 60 60) (scOf L_k21 d_k21_is_network F) (defBody d_k21_is_network.st) = some (d_k21_is_network.b F) := by kernel_rfl
theorem c_k21_require_network (F : Str → Fn) : compSs (compS 60 60) (scOf L_k21 d_k21_require_network F) (defBody d_k21_require_network.st) = some (d_k21_require_network.b F) := by kernel_rfl
theorem c_k21_are_nodes (F : Str → Fn) : compSs (compS 60 60) (scOf L_k21 d_k21_are_nodes F) (defBody d_k21_are_nodes.st) = some (d_k21_are_nodes.b F) := by kernel_rfl
theorem c_k21_require_landmarks (F : Str → Fn) : compSs (compS 60 60) (scOf L_k21 d_k21_require_landmarks F) (defBody d_k21_require_landmarks.st) = some (d_k21_require_landmarks.b F) := by kernel_rfl
theorem c_k21_reading_of (F : Str → Fn) : compSs (compS 60 60) (scOf L_k21 d_k21_reading_of F) (defBody d_k21_reading_of.st) = some (d_k21_reading_of.b F) := by kernel_rfl
theorem c_k21_are_observed (F : Str → Fn) : compSs (compS 60 60) (scOf L_k21 d_k21_are_observed F) (defBody d_k21_are_observed.st) = some (d_k21_are_observed.b F) := by kernel_rfl
theorem c_k21_errors_in (F : Str → Fn) : compSs (compS 60 60) (scOf L_k21 d_k21_errors_in F) (defBody d_k21_errors_in.st) = some (d_k21_errors_in.b F) := by kernel_rfl
theorem c_k21_fitting_nodes (F : Str → Fn) : compSs (compS 60 60) (scOf L_k21 d_k21_fitting_nodes F) (defBody d_k21_fitting_nodes.st) = some (d_k21_fitting_nodes.b F) := by kernel_rfl
theorem c_k21_require_number (F : Str → Fn) : compSs (compS 60 60) (scOf L_k21 d_k21_require_number F) (defBody d_k21_require_number.st) = some (d_k21_require_number.b F) := by kernel_rfl
theorem c_k21_fitting (F : Str → Fn) : compSs (compS 60 60) (scOf L_k21 d_k21_fitting F) (defBody d_k21_fitting.st) = some (d_k21_fitting.b F) := by kernel_rfl
theorem c_k21__law_draw (F : Str → Fn) : compSs (compS 60 60) (scOf L_k21 d_k21__law_draw F) (defBody d_k21__law_draw.st) = some (d_k21__law_draw.b F) := by kernel_rfl
theorem c_k21__law_pick (F : Str → Fn) : compSs (compS 60 60) (scOf L_k21 d_k21__law_pick F) (defBody d_k21__law_pick.st) = some (d_k21__law_pick.b F) := by kernel_rfl
theorem c_k21__law_shuffled (F : Str → Fn) : compSs (compS 60 60) (scOf L_k21 d_k21__law_shuffled F) (defBody d_k21__law_shuffled.st) = some (d_k21__law_shuffled.b F) := by kernel_rfl
theorem c_k21__law_bent (F : Str → Fn) : compSs (compS 60 60) (scOf L_k21 d_k21__law_bent F) (defBody d_k21__law_bent.st) = some (d_k21__law_bent.b F) := by kernel_rfl
theorem c_k21__law_network (F : Str → Fn) : compSs (compS 60 60) (scOf L_k21 d_k21__law_network F) (defBody d_k21__law_network.st) = some (d_k21__law_network.b F) := by kernel_rfl
theorem c_k21__law_table (F : Str → Fn) : compSs (compS 60 60) (scOf L_k21 d_k21__law_table F) (defBody d_k21__law_table.st) = some (d_k21__law_table.b F) := by kernel_rfl
theorem c_k21__law_subset (F : Str → Fn) : compSs (compS 60 60) (scOf L_k21 d_k21__law_subset F) (defBody d_k21__law_subset.st) = some (d_k21__law_subset.b F) := by kernel_rfl
theorem c_k21__law_are_observed (F : Str → Fn) : compSs (compS 60 60) (scOf L_k21 d_k21__law_are_observed F) (defBody d_k21__law_are_observed.st) = some (d_k21__law_are_observed.b F) := by kernel_rfl
theorem c_k21__law_fitting_or (F : Str → Fn) : compSs (compS 60 60) (scOf L_k21 d_k21__law_fitting_or F) (defBody d_k21__law_fitting_or.st) = some (d_k21__law_fitting_or.b F) := by kernel_rfl
theorem c_k21_law (F : Str → Fn) : compSs (compS 60 60) (scOf L_k21 d_k21_law F) (defBody d_k21_law.st) = some (d_k21_law.b F) := by kernel_rfl
theorem s_k21_is_integer : FnScope d_k21_is_integer.N d_k21_is_integer.ps (defScope d_k21_is_integer.st) := ⟨rfl, rfl, rfl, by decide +kernel, by decide +kernel, by decide +kernel, by decide +kernel⟩
theorem a_k21_is_integer (kV doc pm : Value) (an : Option Addr) (cdv ct : Value) (us : List Value) (h : us.length = d_k21_is_integer.ps.length) : bindArgs (PySem.W.fnOf d_k21_is_integer.x d_k21_is_integer.x (defArgs d_k21_is_integer.st) (defBody d_k21_is_integer.st) (defScope d_k21_is_integer.st) .none kV doc pm an cdv ct) ⟨us, []⟩ = pure (d_k21_is_integer.ps.zip us) := match us, h with | [_, _, _], _ => rfl
theorem s_k21_is_ascending : FnScope d_k21_is_ascending.N d_k21_is_ascending.ps (defScope d_k21_is_ascending.st) := ⟨rfl, rfl, rfl, by decide +kernel, by decide +kernel, by decide +kernel, by decide +kernel⟩
theorem a_k21_is_ascending (kV doc pm : Value) (an : Option Addr) (cdv ct : Value) (us : List Value) (h : us.length = d_k21_is_ascending.ps.length) : bindArgs (PySem.W.fnOf d_k21_is_ascending.x d_k21_is_ascending.x (defArgs d_k21_is_ascending.st) (defBody d_k21_is_ascending.st) (defScope d_k21_is_ascending.st) .none kV doc pm an cdv ct) ⟨us, []⟩ = pure (d_k21_is_ascending.ps.zip us) := match us, h with | [_], _ => rfl
theorem s_k21_is_name : FnScope d_k21_is_name.N d_k21_is_name.ps (defScope d_k21_is_name.st) := ⟨rfl, rfl, rfl, by decide +kernel, by decide +kernel, by decide +kernel, by decide +kernel⟩
theorem a_k21_is_name (kV doc pm : Value) (an : Option Addr) (cdv ct : Value) (us : List Value) (h : us.length = d_k21_is_name.ps.length) : bindArgs (PySem.W.fnOf d_k21_is_name.x d_k21_is_name.x (defArgs d_k21_is_name.st) (defBody d_k21_is_name.st) (defScope d_k21_is_name.st) .none kV doc pm an cdv ct) ⟨us, []⟩ = pure (d_k21_is_name.ps.zip us) := match us, h with | [_], _ => rfl
theorem s_k21_are_names : FnScope d_k21_are_names.N d_k21_are_names.ps (defScope d_k21_are_names.st) := ⟨rfl, rfl, rfl, by decide +kernel, by decide +kernel, by decide +kernel, by decide +kernel⟩
theorem a_k21_are_names (kV doc pm : Value) (an : Option Addr) (cdv ct : Value) (us : List Value) (h : us.length = d_k21_are_names.ps.length) : bindArgs (PySem.W.fnOf d_k21_are_names.x d_k21_are_names.x (defArgs d_k21_are_names.st) (defBody d_k21_are_names.st) (defScope d_k21_are_names.st) .none kV doc pm an cdv ct) ⟨us, []⟩ = pure (d_k21_are_names.ps.zip us) := match us, h with | [_], _ => rfl
theorem s_k21_is_pair : FnScope d_k21_is_pair.N d_k21_is_pair.ps (defScope d_k21_is_pair.st) := ⟨rfl, rfl, rfl, by decide +kernel, by decide +kernel, by decide +kernel, by decide +kernel⟩
theorem a_k21_is_pair (kV doc pm : Value) (an : Option Addr) (cdv ct : Value) (us : List Value) (h : us.length = d_k21_is_pair.ps.length) : bindArgs (PySem.W.fnOf d_k21_is_pair.x d_k21_is_pair.x (defArgs d_k21_is_pair.st) (defBody d_k21_is_pair.st) (defScope d_k21_is_pair.st) .none kV doc pm an cdv ct) ⟨us, []⟩ = pure (d_k21_is_pair.ps.zip us) := match us, h with | [_, _], _ => rfl
theorem s_k21_beside : FnScope d_k21_beside.N d_k21_beside.ps (defScope d_k21_beside.st) := ⟨rfl, rfl, rfl, by decide +kernel, by decide +kernel, by decide +kernel, by decide +kernel⟩
theorem a_k21_beside (kV doc pm : Value) (an : Option Addr) (cdv ct : Value) (us : List Value) (h : us.length = d_k21_beside.ps.length) : bindArgs (PySem.W.fnOf d_k21_beside.x d_k21_beside.x (defArgs d_k21_beside.st) (defBody d_k21_beside.st) (defScope d_k21_beside.st) .none kV doc pm an cdv ct) ⟨us, []⟩ = pure (d_k21_beside.ps.zip us) := match us, h with | [_, _], _ => rfl
theorem s_k21_steps_from : FnScope d_k21_steps_from.N d_k21_steps_from.ps (defScope d_k21_steps_from.st) := ⟨rfl, rfl, rfl, by decide +kernel, by decide +kernel, by decide +kernel, by decide +kernel⟩
theorem a_k21_steps_from (kV doc pm : Value) (an : Option Addr) (cdv ct : Value) (us : List Value) (h : us.length = d_k21_steps_from.ps.length) : bindArgs (PySem.W.fnOf d_k21_steps_from.x d_k21_steps_from.x (defArgs d_k21_steps_from.st) (defBody d_k21_steps_from.st) (defScope d_k21_steps_from.st) .none kV doc pm an cdv ct) ⟨us, []⟩ = pure (d_k21_steps_from.ps.zip us) := match us, h with | [_, _], _ => rfl
theorem s_k21_is_connected : FnScope d_k21_is_connected.N d_k21_is_connected.ps (defScope d_k21_is_connected.st) := ⟨rfl, rfl, rfl, by decide +kernel, by decide +kernel, by decide +kernel, by decide +kernel⟩
theorem a_k21_is_connected (kV doc pm : Value) (an : Option Addr) (cdv ct : Value) (us : List Value) (h : us.length = d_k21_is_connected.ps.length) : bindArgs (PySem.W.fnOf d_k21_is_connected.x d_k21_is_connected.x (defArgs d_k21_is_connected.st) (defBody d_k21_is_connected.st) (defScope d_k21_is_connected.st) .none kV doc pm an cdv ct) ⟨us, []⟩ = pure (d_k21_is_connected.ps.zip us) := match us, h with | [_], _ => rfl
theorem s_k21_is_network : FnScope d_k21_is_network.N d_k21_is_network.ps (defScope d_k21_is_network.st) := ⟨rfl, rfl, rfl, by decide +kernel, by decide +kernel, by decide +kernel, by decide +kernel⟩
theorem a_k21_is_network (kV doc pm : Value) (an : Option Addr) (cdv ct : Value) (us : List Value) (h : us.length = d_k21_is_network.ps.length) : bindArgs (PySem.W.fnOf d_k21_is_network.x d_k21_is_network.x (defArgs d_k21_is_network.st) (defBody d_k21_is_network.st) (defScope d_k21_is_network.st) .none kV doc pm an cdv ct) ⟨us, []⟩ = pure (d_k21_is_network.ps.zip us) := match us, h with | [_], _ => rfl
theorem s_k21_require_network : FnScope d_k21_require_network.N d_k21_require_network.ps (defScope d_k21_require_network.st) := ⟨rfl, rfl, rfl, by decide +kernel, by decide +kernel, by decide +kernel, by decide +kernel⟩
theorem a_k21_require_network (kV doc pm : Value) (an : Option Addr) (cdv ct : Value) (us : List Value) (h : us.length = d_k21_require_network.ps.length) : bindArgs (PySem.W.fnOf d_k21_require_network.x d_k21_require_network.x (defArgs d_k21_require_network.st) (defBody d_k21_require_network.st) (defScope d_k21_require_network.st) .none kV doc pm an cdv ct) ⟨us, []⟩ = pure (d_k21_require_network.ps.zip us) := match us, h with | [_], _ => rfl
theorem s_k21_are_nodes : FnScope d_k21_are_nodes.N d_k21_are_nodes.ps (defScope d_k21_are_nodes.st) := ⟨rfl, rfl, rfl, by decide +kernel, by decide +kernel, by decide +kernel, by decide +kernel⟩
theorem a_k21_are_nodes (kV doc pm : Value) (an : Option Addr) (cdv ct : Value) (us : List Value) (h : us.length = d_k21_are_nodes.ps.length) : bindArgs (PySem.W.fnOf d_k21_are_nodes.x d_k21_are_nodes.x (defArgs d_k21_are_nodes.st) (defBody d_k21_are_nodes.st) (defScope d_k21_are_nodes.st) .none kV doc pm an cdv ct) ⟨us, []⟩ = pure (d_k21_are_nodes.ps.zip us) := match us, h with | [_, _], _ => rfl
theorem s_k21_require_landmarks : FnScope d_k21_require_landmarks.N d_k21_require_landmarks.ps (defScope d_k21_require_landmarks.st) := ⟨rfl, rfl, rfl, by decide +kernel, by decide +kernel, by decide +kernel, by decide +kernel⟩
theorem a_k21_require_landmarks (kV doc pm : Value) (an : Option Addr) (cdv ct : Value) (us : List Value) (h : us.length = d_k21_require_landmarks.ps.length) : bindArgs (PySem.W.fnOf d_k21_require_landmarks.x d_k21_require_landmarks.x (defArgs d_k21_require_landmarks.st) (defBody d_k21_require_landmarks.st) (defScope d_k21_require_landmarks.st) .none kV doc pm an cdv ct) ⟨us, []⟩ = pure (d_k21_require_landmarks.ps.zip us) := match us, h with | [_, _], _ => rfl
theorem s_k21_reading_of : FnScope d_k21_reading_of.N d_k21_reading_of.ps (defScope d_k21_reading_of.st) := ⟨rfl, rfl, rfl, by decide +kernel, by decide +kernel, by decide +kernel, by decide +kernel⟩
theorem a_k21_reading_of (kV doc pm : Value) (an : Option Addr) (cdv ct : Value) (us : List Value) (h : us.length = d_k21_reading_of.ps.length) : bindArgs (PySem.W.fnOf d_k21_reading_of.x d_k21_reading_of.x (defArgs d_k21_reading_of.st) (defBody d_k21_reading_of.st) (defScope d_k21_reading_of.st) .none kV doc pm an cdv ct) ⟨us, []⟩ = pure (d_k21_reading_of.ps.zip us) := match us, h with | [_, _, _], _ => rfl
theorem s_k21_are_observed : FnScope d_k21_are_observed.N d_k21_are_observed.ps (defScope d_k21_are_observed.st) := ⟨rfl, rfl, rfl, by decide +kernel, by decide +kernel, by decide +kernel, by decide +kernel⟩
theorem a_k21_are_observed (kV doc pm : Value) (an : Option Addr) (cdv ct : Value) (us : List Value) (h : us.length = d_k21_are_observed.ps.length) : bindArgs (PySem.W.fnOf d_k21_are_observed.x d_k21_are_observed.x (defArgs d_k21_are_observed.st) (defBody d_k21_are_observed.st) (defScope d_k21_are_observed.st) .none kV doc pm an cdv ct) ⟨us, []⟩ = pure (d_k21_are_observed.ps.zip us) := match us, h with | [_, _], _ => rfl
theorem s_k21_errors_in : FnScope d_k21_errors_in.N d_k21_errors_in.ps (defScope d_k21_errors_in.st) := ⟨rfl, rfl, rfl, by decide +kernel, by decide +kernel, by decide +kernel, by decide +kernel⟩
theorem a_k21_errors_in (kV doc pm : Value) (an : Option Addr) (cdv ct : Value) (us : List Value) (h : us.length = d_k21_errors_in.ps.length) : bindArgs (PySem.W.fnOf d_k21_errors_in.x d_k21_errors_in.x (defArgs d_k21_errors_in.st) (defBody d_k21_errors_in.st) (defScope d_k21_errors_in.st) .none kV doc pm an cdv ct) ⟨us, []⟩ = pure (d_k21_errors_in.ps.zip us) := match us, h with | [_, _], _ => rfl
theorem s_k21_fitting_nodes : FnScope d_k21_fitting_nodes.N d_k21_fitting_nodes.ps (defScope d_k21_fitting_nodes.st) := ⟨rfl, rfl, rfl, by decide +kernel, by decide +kernel, by decide +kernel, by decide +kernel⟩
theorem a_k21_fitting_nodes (kV doc pm : Value) (an : Option Addr) (cdv ct : Value) (us : List Value) (h : us.length = d_k21_fitting_nodes.ps.length) : bindArgs (PySem.W.fnOf d_k21_fitting_nodes.x d_k21_fitting_nodes.x (defArgs d_k21_fitting_nodes.st) (defBody d_k21_fitting_nodes.st) (defScope d_k21_fitting_nodes.st) .none kV doc pm an cdv ct) ⟨us, []⟩ = pure (d_k21_fitting_nodes.ps.zip us) := match us, h with | [_, _, _, _], _ => rfl
theorem s_k21_require_number : FnScope d_k21_require_number.N d_k21_require_number.ps (defScope d_k21_require_number.st) := ⟨rfl, rfl, rfl, by decide +kernel, by decide +kernel, by decide +kernel, by decide +kernel⟩
theorem a_k21_require_number (kV doc pm : Value) (an : Option Addr) (cdv ct : Value) (us : List Value) (h : us.length = d_k21_require_number.ps.length) : bindArgs (PySem.W.fnOf d_k21_require_number.x d_k21_require_number.x (defArgs d_k21_require_number.st) (defBody d_k21_require_number.st) (defScope d_k21_require_number.st) .none kV doc pm an cdv ct) ⟨us, []⟩ = pure (d_k21_require_number.ps.zip us) := match us, h with | [_], _ => rfl
theorem s_k21_fitting : FnScope d_k21_fitting.N d_k21_fitting.ps (defScope d_k21_fitting.st) := ⟨rfl, rfl, rfl, by decide +kernel, by decide +kernel, by decide +kernel, by decide +kernel⟩
theorem a_k21_fitting (kV doc pm : Value) (an : Option Addr) (cdv ct : Value) (us : List Value) (h : us.length = d_k21_fitting.ps.length) : bindArgs (PySem.W.fnOf d_k21_fitting.x d_k21_fitting.x (defArgs d_k21_fitting.st) (defBody d_k21_fitting.st) (defScope d_k21_fitting.st) .none kV doc pm an cdv ct) ⟨us, []⟩ = pure (d_k21_fitting.ps.zip us) := match us, h with | [_, _, _, _], _ => rfl
theorem s_k21__law_draw : FnScope d_k21__law_draw.N d_k21__law_draw.ps (defScope d_k21__law_draw.st) := ⟨rfl, rfl, rfl, by decide +kernel, by decide +kernel, by decide +kernel, by decide +kernel⟩
theorem a_k21__law_draw (kV doc pm : Value) (an : Option Addr) (cdv ct : Value) (us : List Value) (h : us.length = d_k21__law_draw.ps.length) : bindArgs (PySem.W.fnOf d_k21__law_draw.x d_k21__law_draw.x (defArgs d_k21__law_draw.st) (defBody d_k21__law_draw.st) (defScope d_k21__law_draw.st) .none kV doc pm an cdv ct) ⟨us, []⟩ = pure (d_k21__law_draw.ps.zip us) := match us, h with | [_, _, _], _ => rfl
theorem s_k21__law_pick : FnScope d_k21__law_pick.N d_k21__law_pick.ps (defScope d_k21__law_pick.st) := ⟨rfl, rfl, rfl, by decide +kernel, by decide +kernel, by decide +kernel, by decide +kernel⟩
theorem a_k21__law_pick (kV doc pm : Value) (an : Option Addr) (cdv ct : Value) (us : List Value) (h : us.length = d_k21__law_pick.ps.length) : bindArgs (PySem.W.fnOf d_k21__law_pick.x d_k21__law_pick.x (defArgs d_k21__law_pick.st) (defBody d_k21__law_pick.st) (defScope d_k21__law_pick.st) .none kV doc pm an cdv ct) ⟨us, []⟩ = pure (d_k21__law_pick.ps.zip us) := match us, h with | [_, _, _], _ => rfl
theorem s_k21__law_shuffled : FnScope d_k21__law_shuffled.N d_k21__law_shuffled.ps (defScope d_k21__law_shuffled.st) := ⟨rfl, rfl, rfl, by decide +kernel, by decide +kernel, by decide +kernel, by decide +kernel⟩
theorem a_k21__law_shuffled (kV doc pm : Value) (an : Option Addr) (cdv ct : Value) (us : List Value) (h : us.length = d_k21__law_shuffled.ps.length) : bindArgs (PySem.W.fnOf d_k21__law_shuffled.x d_k21__law_shuffled.x (defArgs d_k21__law_shuffled.st) (defBody d_k21__law_shuffled.st) (defScope d_k21__law_shuffled.st) .none kV doc pm an cdv ct) ⟨us, []⟩ = pure (d_k21__law_shuffled.ps.zip us) := match us, h with | [_, _, _], _ => rfl
theorem s_k21__law_bent : FnScope d_k21__law_bent.N d_k21__law_bent.ps (defScope d_k21__law_bent.st) := ⟨rfl, rfl, rfl, by decide +kernel, by decide +kernel, by decide +kernel, by decide +kernel⟩
theorem a_k21__law_bent (kV doc pm : Value) (an : Option Addr) (cdv ct : Value) (us : List Value) (h : us.length = d_k21__law_bent.ps.length) : bindArgs (PySem.W.fnOf d_k21__law_bent.x d_k21__law_bent.x (defArgs d_k21__law_bent.st) (defBody d_k21__law_bent.st) (defScope d_k21__law_bent.st) .none kV doc pm an cdv ct) ⟨us, []⟩ = pure (d_k21__law_bent.ps.zip us) := match us, h with | [_, _, _], _ => rfl
theorem s_k21__law_network : FnScope d_k21__law_network.N d_k21__law_network.ps (defScope d_k21__law_network.st) := ⟨rfl, rfl, rfl, by decide +kernel, by decide +kernel, by decide +kernel, by decide +kernel⟩
theorem a_k21__law_network (kV doc pm : Value) (an : Option Addr) (cdv ct : Value) (us : List Value) (h : us.length = d_k21__law_network.ps.length) : bindArgs (PySem.W.fnOf d_k21__law_network.x d_k21__law_network.x (defArgs d_k21__law_network.st) (defBody d_k21__law_network.st) (defScope d_k21__law_network.st) .none kV doc pm an cdv ct) ⟨us, []⟩ = pure (d_k21__law_network.ps.zip us) := match us, h with | [_, _, _], _ => rfl
theorem s_k21__law_table : FnScope d_k21__law_table.N d_k21__law_table.ps (defScope d_k21__law_table.st) := ⟨rfl, rfl, rfl, by decide +kernel, by decide +kernel, by decide +kernel, by decide +kernel⟩
theorem a_k21__law_table (kV doc pm : Value) (an : Option Addr) (cdv ct : Value) (us : List Value) (h : us.length = d_k21__law_table.ps.length) : bindArgs (PySem.W.fnOf d_k21__law_table.x d_k21__law_table.x (defArgs d_k21__law_table.st) (defBody d_k21__law_table.st) (defScope d_k21__law_table.st) .none kV doc pm an cdv ct) ⟨us, []⟩ = pure (d_k21__law_table.ps.zip us) := match us, h with | [_], _ => rfl
theorem s_k21__law_subset : FnScope d_k21__law_subset.N d_k21__law_subset.ps (defScope d_k21__law_subset.st) := ⟨rfl, rfl, rfl, by decide +kernel, by decide +kernel, by decide +kernel, by decide +kernel⟩
theorem a_k21__law_subset (kV doc pm : Value) (an : Option Addr) (cdv ct : Value) (us : List Value) (h : us.length = d_k21__law_subset.ps.length) : bindArgs (PySem.W.fnOf d_k21__law_subset.x d_k21__law_subset.x (defArgs d_k21__law_subset.st) (defBody d_k21__law_subset.st) (defScope d_k21__law_subset.st) .none kV doc pm an cdv ct) ⟨us, []⟩ = pure (d_k21__law_subset.ps.zip us) := match us, h with | [_, _, _], _ => rfl
theorem s_k21__law_are_observed : FnScope d_k21__law_are_observed.N d_k21__law_are_observed.ps (defScope d_k21__law_are_observed.st) := ⟨rfl, rfl, rfl, by decide +kernel, by decide +kernel, by decide +kernel, by decide +kernel⟩
theorem a_k21__law_are_observed (kV doc pm : Value) (an : Option Addr) (cdv ct : Value) (us : List Value) (h : us.length = d_k21__law_are_observed.ps.length) : bindArgs (PySem.W.fnOf d_k21__law_are_observed.x d_k21__law_are_observed.x (defArgs d_k21__law_are_observed.st) (defBody d_k21__law_are_observed.st) (defScope d_k21__law_are_observed.st) .none kV doc pm an cdv ct) ⟨us, []⟩ = pure (d_k21__law_are_observed.ps.zip us) := match us, h with | [_, _], _ => rfl
theorem s_k21__law_fitting_or : FnScope d_k21__law_fitting_or.N d_k21__law_fitting_or.ps (defScope d_k21__law_fitting_or.st) := ⟨rfl, rfl, rfl, by decide +kernel, by decide +kernel, by decide +kernel, by decide +kernel⟩
theorem a_k21__law_fitting_or (kV doc pm : Value) (an : Option Addr) (cdv ct : Value) (us : List Value) (h : us.length = d_k21__law_fitting_or.ps.length) : bindArgs (PySem.W.fnOf d_k21__law_fitting_or.x d_k21__law_fitting_or.x (defArgs d_k21__law_fitting_or.st) (defBody d_k21__law_fitting_or.st) (defScope d_k21__law_fitting_or.st) .none kV doc pm an cdv ct) ⟨us, []⟩ = pure (d_k21__law_fitting_or.ps.zip us) := match us, h with | [_, _, _, _], _ => rfl
theorem s_k21_law : FnScope d_k21_law.N d_k21_law.ps (defScope d_k21_law.st) := ⟨rfl, rfl, rfl, by decide +kernel, by decide +kernel, by decide +kernel, by decide +kernel⟩
theorem a_k21_law (kV doc pm : Value) (an : Option Addr) (cdv ct : Value) (us : List Value) (h : us.length = d_k21_law.ps.length) : bindArgs (PySem.W.fnOf d_k21_law.x d_k21_law.x (defArgs d_k21_law.st) (defBody d_k21_law.st) (defScope d_k21_law.st) .none kV doc pm an cdv ct) ⟨us, []⟩ = pure (d_k21_law.ps.zip us) := match us, h with | [_], _ => rfl
theorem ok_k21 : LwOk L_k21 := by
  have all : ∀ {Q : Df → Prop}, Q d_k21_is_integer → Q d_k21_is_ascending → Q d_k21_is_name → Q d_k21_are_names → Q d_k21_is_pair → Q d_k21_beside → Q d_k21_steps_from → Q d_k21_is_connected → Q d_k21_is_network → Q d_k21_require_network → Q d_k21_are_nodes → Q d_k21_require_landmarks → Q d_k21_reading_of → Q d_k21_are_observed → Q d_k21_errors_in → Q d_k21_fitting_nodes → Q d_k21_require_number → Q d_k21_fitting → Q d_k21__law_draw → Q d_k21__law_pick → Q d_k21__law_shuffled → Q d_k21__law_bent → Q d_k21__law_network → Q d_k21__law_table → Q d_k21__law_subset → Q d_k21__law_are_observed → Q d_k21__law_fitting_or → Q d_k21_law → ∀ d ∈ L_k21.defs, Q d := by
    intro Q h0 h1 h2 h3 h4 h5 h6 h7 h8 h9 h10 h11 h12 h13 h14 h15 h16 h17 h18 h19 h20 h21 h22 h23 h24 h25 h26 h27 d hd
    simp only [L_k21, ds_k21, List.mem_append, List.mem_cons, List.not_mem_nil, or_false] at hd
    rcases hd with ((rfl | rfl | rfl | rfl | rfl | rfl | rfl | rfl | rfl | rfl | rfl | rfl | rfl | rfl | rfl | rfl | rfl | rfl | rfl | rfl | rfl | rfl | rfl | rfl | rfl) | (rfl | rfl | rfl))
    · exact h0
    · exact h1
    · exact h2
    · exact h3
    · exact h4
    · exact h5
    · exact h6
    · exact h7
    · exact h8
    · exact h9
    · exact h10
    · exact h11
    · exact h12
    · exact h13
    · exact h14
    · exact h15
    · exact h16
    · exact h17
    · exact h18
    · exact h19
    · exact h20
    · exact h21
    · exact h22
    · exact h23
    · exact h24
    · exact h25
    · exact h26
    · exact h27
  refine ⟨all c_k21_is_integer c_k21_is_ascending c_k21_is_name c_k21_are_names c_k21_is_pair c_k21_beside c_k21_steps_from c_k21_is_connected c_k21_is_network c_k21_require_network c_k21_are_nodes c_k21_require_landmarks c_k21_reading_of c_k21_are_observed c_k21_errors_in c_k21_fitting_nodes c_k21_require_number c_k21_fitting c_k21__law_draw c_k21__law_pick c_k21__law_shuffled c_k21__law_bent c_k21__law_network c_k21__law_table c_k21__law_subset c_k21__law_are_observed c_k21__law_fitting_or c_k21_law, all s_k21_is_integer s_k21_is_ascending s_k21_is_name s_k21_are_names s_k21_is_pair s_k21_beside s_k21_steps_from s_k21_is_connected s_k21_is_network s_k21_require_network s_k21_are_nodes s_k21_require_landmarks s_k21_reading_of s_k21_are_observed s_k21_errors_in s_k21_fitting_nodes s_k21_require_number s_k21_fitting s_k21__law_draw s_k21__law_pick s_k21__law_shuffled s_k21__law_bent s_k21__law_network s_k21__law_table s_k21__law_subset s_k21__law_are_observed s_k21__law_fitting_or s_k21_law, all rfl rfl rfl rfl rfl rfl rfl rfl rfl rfl rfl rfl rfl rfl rfl rfl rfl rfl rfl rfl rfl rfl rfl rfl rfl rfl rfl rfl, all a_k21_is_integer a_k21_is_ascending a_k21_is_name a_k21_are_names a_k21_is_pair a_k21_beside a_k21_steps_from a_k21_is_connected a_k21_is_network a_k21_require_network a_k21_are_nodes a_k21_require_landmarks a_k21_reading_of a_k21_are_observed a_k21_errors_in a_k21_fitting_nodes a_k21_require_number a_k21_fitting a_k21__law_draw a_k21__law_pick a_k21__law_shuffled a_k21__law_bent a_k21__law_network a_k21__law_table a_k21__law_subset a_k21__law_are_observed a_k21__law_fitting_or a_k21_law⟩
abbrev R_k21 : PySem.W.OpenRow := PySem.W.OpenLaw.row PySem.Challenge.rw_landmarks_k21_fitting_by_hand
abbrev hk_k21 : PySem.W.Hook := hookG 4 (faOf L_k21) (fnOf' L_k21)
def ob_k21 (s : PySem.W.SharedT) : He.AlD × Bool := obG 4 (faOf L_k21) (fnOf' L_k21) s
theorem ob_eq_k21 (s : PySem.W.SharedT) : ob_k21 s = hk_k21.obs s.abs := obG_eq 4 _ _ s
def loose_k21 : List PySem.Str := (["is_integer", "is_ascending", "is_name", "are_names", "is_pair", "beside", "steps_from", "is_connected", "is_network", "require_network", "are_nodes", "require_landmarks", "reading_of", "are_observed", "errors_in", "fitting_nodes", "require_number", "fitting", "_law_draw", "_law_pick", "_law_shuffled", "_law_bent", "_law_network", "_law_table", "_law_subset"] : List PySem.Str) ++ (["_law_are_observed", "_law_fitting_or", "LandmarkError", "InvalidNetwork", "InvalidLandmarks", "InvalidNumber", "InvalidObserved"] : List PySem.Str)
theorem run_k21 (w : World) : HandSHeadRun.RunEq R_k21 (PySem.W.view R_k21.prog [37]) hk_k21 ob_k21 4000 loose_k21 w := by
  intro os
  kernel_rfl
end G6
open PySem PySem.W PySem.Calls PyProof.Rows in
theorem G6.fin_k21 (hl : ∀ ns : List Int, ns.length ≤ 63 → ∃ fr os, G6.tab G6.L_k21 14 "law" [.list (ns.map PyData.int)] = .ok (.bool true) fr os) : PySem.Challenge.rw_landmarks_k21_fitting_by_hand.Holds := by
  w_on; o_law
  refine HandSHeadRun.head_any (r := OpenLaw.row PySem.Challenge.rw_landmarks_k21_fitting_by_hand) (q := view (OpenLaw.row PySem.Challenge.rw_landmarks_k21_fitting_by_hand).prog [37]) (H := G6.hk_k21) (ob := G6.ob_k21) (M := 4000) (loose := G6.loose_k21) (d := HandSHeadRun.topDef (OpenLaw.row PySem.Challenge.rw_landmarks_k21_fitting_by_hand).prog 37) (kwd := []) G6.ob_eq_k21
    (by kernel_rfl) (fun s => by kernel_rfl) G6.run_k21 (by kernel_rfl) (by kernel_rfl) (by kernel_rfl) (by rfl) (by first | assumption | decide +kernel) (by decide +kernel) ⟨rfl, rfl, rfl, rfl, rfl, by decide +kernel⟩ ?hw ?hc
  case hw => w_witness2
  case hc =>
    refine G6.walk_w (l := PySem.Challenge.rw_landmarks_k21_fitting_by_hand) (n := 63) (k := 14) (x := "script") (CX := fun w => L2.CX PySem.Challenge.rw_landmarks_k21_fitting_by_hand.prog w) rfl (by decide) (by kernel_rfl) ⟨rfl, by decide, by decide⟩ ?F ?z
    case F =>
      intro w mg fa h Y G hmg0
      have hmg : mg ("law" : PySem.Str) = some (.ref fa) := by
        have e : (HandSHeadRun.topDef (OpenLaw.row PySem.Challenge.rw_landmarks_k21_fitting_by_hand).prog 37).name = ("law" : PySem.Str) := by kernel_rfl
        rw [← e]
        exact hmg0
      exact G6.end_of (d := G6.d_k21_law) G6.ok_k21 (by rfl) rfl rfl Y G hmg hl
    case z => exact fun w H s e s' => G6.noCX _ _ H s e s'

namespace G6
open PySem PySem.W
theorem t_k21_is_integer (n : Nat) : tab L_k21 (n + 1) "is_integer" = fnBody 3 [false, false, false] (b_is_integer (tab L_k21 n)) := by
  rfl
instance : H_is_integer (tab L_k21) := { own_is_integer := t_k21_is_integer }
theorem t_k21_is_ascending (n : Nat) : tab L_k21 (n + 1) "is_ascending" = fnBody 3 [false] (b_is_ascending (tab L_k21 n)) := by
  rfl
instance : H_is_ascending (tab L_k21) := { own_is_ascending := t_k21_is_ascending }
theorem t_k21_is_name (n : Nat) : tab L_k21 (n + 1) "is_name" = fnBody 2 [false] (b_is_name (tab L_k21 n)) := by
  rfl
instance : H_is_name (tab L_k21) := { own_is_name := t_k21_is_name }
theorem t_k21_are_names (n : Nat) : tab L_k21 (n + 1) "are_names" = fnBody 2 [false] (b_are_names (tab L_k21 n)) := by
  rfl
instance : H_are_names (tab L_k21) := { own_are_names := t_k21_are_names }
theorem t_k21_is_pair (n : Nat) : tab L_k21 (n + 1) "is_pair" = fnBody 3 [false, false] (b_is_pair (tab L_k21 n)) := by
  rfl
instance : H_is_pair (tab L_k21) := { own_is_pair := t_k21_is_pair }
theorem t_k21_beside (n : Nat) : tab L_k21 (n + 1) "beside" = fnBody 4 [false, false] (b_beside (tab L_k21 n)) := by
  rfl
instance : H_beside (tab L_k21) := { own_beside := t_k21_beside }
theorem t_k21_steps_from (n : Nat) : tab L_k21 (n + 1) "steps_from" = fnBody 8 [false, false] (b_steps_from (tab L_k21 n)) := by
  rfl
instance : H_steps_from (tab L_k21) := { own_steps_from := t_k21_steps_from }
theorem t_k21_is_connected (n : Nat) : tab L_k21 (n + 1) "is_connected" = fnBody 1 [false] (b_is_connected (tab L_k21 n)) := by
  rfl
instance : H_is_connected (tab L_k21) := { own_is_connected := t_k21_is_connected }
theorem t_k21_is_network (n : Nat) : tab L_k21 (n + 1) "is_network" = fnBody 4 [false] (b_is_network (tab L_k21 n)) := by
  rfl
instance : H_is_network (tab L_k21) := { own_is_network := t_k21_is_network }
theorem t_k21_require_network (n : Nat) : tab L_k21 (n + 1) "require_network" = fnBody 1 [false] (b_require_network (tab L_k21 n)) := by
  rfl
instance : H_require_network (tab L_k21) := { own_require_network := t_k21_require_network }
theorem t_k21_are_nodes (n : Nat) : tab L_k21 (n + 1) "are_nodes" = fnBody 3 [false, false] (b_are_nodes (tab L_k21 n)) := by
  rfl
instance : H_are_nodes (tab L_k21) := { own_are_nodes := t_k21_are_nodes }
theorem t_k21_require_landmarks (n : Nat) : tab L_k21 (n + 1) "require_landmarks" = fnBody 2 [false, false] (b_require_landmarks (tab L_k21 n)) := by
  rfl
instance : H_require_landmarks (tab L_k21) := { own_require_landmarks := t_k21_require_landmarks }
theorem t_k21_reading_of (n : Nat) : tab L_k21 (n + 1) "reading_of" = fnBody 5 [false, false, false] (b_reading_of (tab L_k21 n)) := by
  rfl
instance : H_reading_of (tab L_k21) := { own_reading_of := t_k21_reading_of }
theorem t_k21_are_observed (n : Nat) : tab L_k21 (n + 1) "are_observed" = fnBody 3 [false, false] (b_are_observed (tab L_k21 n)) := by
  rfl
instance : H_are_observed (tab L_k21) := { own_are_observed := t_k21_are_observed }
theorem t_k21_errors_in (n : Nat) : tab L_k21 (n + 1) "errors_in" = fnBody 4 [false, false] (b_errors_in (tab L_k21 n)) := by
  rfl
instance : H_errors_in (tab L_k21) := { own_errors_in := t_k21_errors_in }
theorem t_k21_fitting_nodes (n : Nat) : tab L_k21 (n + 1) "fitting_nodes" = fnBody 6 [false, false, false, false] (b_fitting_nodes (tab L_k21 n)) := by
  rfl
instance : H_fitting_nodes (tab L_k21) := { own_fitting_nodes := t_k21_fitting_nodes }
theorem t_k21_require_number (n : Nat) : tab L_k21 (n + 1) "require_number" = fnBody 1 [false] (b_require_number (tab L_k21 n)) := by
  rfl
instance : H_require_number (tab L_k21) := { own_require_number := t_k21_require_number }
theorem t_k21_fitting (n : Nat) : tab L_k21 (n + 1) "fitting" = fnBody 4 [false, false, false, false] (b_fitting (tab L_k21 n)) := by
  rfl
instance : H_fitting (tab L_k21) := { own_fitting := t_k21_fitting }
theorem t_k21__law_draw (n : Nat) : tab L_k21 (n + 1) "_law_draw" = fnBody 8 [false, true, false] (b__law_draw (tab L_k21 n)) := by
  rfl
instance : H__law_draw (tab L_k21) := { own__law_draw := t_k21__law_draw }
theorem t_k21__law_pick (n : Nat) : tab L_k21 (n + 1) "_law_pick" = fnBody 3 [false, true, false] (b__law_pick (tab L_k21 n)) := by
  rfl
instance : H__law_pick (tab L_k21) := { own__law_pick := t_k21__law_pick }
theorem t_k21__law_shuffled (n : Nat) : tab L_k21 (n + 1) "_law_shuffled" = fnBody 5 [false, true, false] (b__law_shuffled (tab L_k21 n)) := by
  rfl
instance : H__law_shuffled (tab L_k21) := { own__law_shuffled := t_k21__law_shuffled }
theorem t_k21__law_bent (n : Nat) : tab L_k21 (n + 1) "_law_bent" = fnBody 5 [false, true, false] (b__law_bent (tab L_k21 n)) := by
  rfl
instance : H__law_bent (tab L_k21) := { own__law_bent := t_k21__law_bent }
theorem t_k21__law_network (n : Nat) : tab L_k21 (n + 1) "_law_network" = fnBody 10 [false, true, false] (b__law_network (tab L_k21 n)) := by
  rfl
instance : H__law_network (tab L_k21) := { own__law_network := t_k21__law_network }
theorem t_k21__law_table (n : Nat) : tab L_k21 (n + 1) "_law_table" = fnBody 7 [false] (b__law_table (tab L_k21 n)) := by
  rfl
instance : H__law_table (tab L_k21) := { own__law_table := t_k21__law_table }
theorem t_k21__law_subset (n : Nat) : tab L_k21 (n + 1) "_law_subset" = fnBody 4 [false, true, false] (b__law_subset (tab L_k21 n)) := by
  rfl
instance : H__law_subset (tab L_k21) := { own__law_subset := t_k21__law_subset }
theorem t_k21__law_are_observed (n : Nat) : tab L_k21 (n + 1) "_law_are_observed" = fnBody 4 [false, false] (b__law_are_observed (tab L_k21 n)) := by
  rfl
instance : H__law_are_observed (tab L_k21) := { own__law_are_observed := t_k21__law_are_observed }
theorem t_k21__law_fitting_or (n : Nat) : tab L_k21 (n + 1) "_law_fitting_or" = fnBody 4 [false, false, false, false] (b__law_fitting_or (tab L_k21 n)) := by
  rfl
instance : H__law_fitting_or (tab L_k21) := { own__law_fitting_or := t_k21__law_fitting_or }
theorem t_k21_law (n : Nat) : tab L_k21 (n + 1) "law" = fnBody 18 [false] (b_law_k21 (tab L_k21 n)) := by
  rfl
instance : H_law_k21 (tab L_k21) := { own_law_k21 := t_k21_law }
end G6
theorem PySem.Challenge.cw_landmarks_k21_fitting_by_hand_holds : PySem.Challenge.rw_landmarks_k21_fitting_by_hand.Holds :=
  G6.fin_k21 fun ns h => ⟨_, _, G6.law21 (T := G6.tab G6.L_k21) 5 ns h⟩
