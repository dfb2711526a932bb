import PyProof.Rows.All
import Wide.All
import OpenK.AllK
import Wide.FinOn
import HandS.ForMost
import HandS.TupAny
import HandS.Deep
import HandS.Flow
import HandS.Style
import HandS.IsInst
import HandS.StrMore
import HandS.Exc
import HandS.HeadHook2
import HandS.HeadEnd
import HandS.Head2
import KE.SortData
import HandS.Walk
import HandS.TryOnly
import HandS.Defaults
import HandS.ExcOwn
import HandS.WordsExc
import HandS.Iter
import HandS.Zip0
import HandS.Rev
import KE.GoesEnum
import KE.GoesZip
import KE.GoesMore
import HandS.Text
import HandS.WideBits
import KE.KRevSl
import HandS.ReplaceLit
import HandS.Replace
import HandS.RaiseMore
import HandS.Sort
import HandS.RevTup
import HandS.Strs
import HandS.Comp
import PyProof.ListStr
import HandS.Conv
import PySem.Challenge.RW_shortlytold_k51_whole_backward_lookups_k
section
set_option Elab.async false
set_option linter.all false
set_option maxRecDepth 100000
/-! The evaluator: data by value, ownership of lists in slots. -/
namespace Ev
open PySem

/-- who owns: f frozen, l locked (read alone), o an owned list, b an owned list whose first item is an owned list -/
inductive Ow where
  | f | l | o | b
  deriving DecidableEq
abbrev Vl := Ow × PyData
abbrev En := List (Option Vl)
inductive R (α : Type) where
  | ok (a : α)
  | ex (c : Str) (d : PyData) (e : En)
  | no
def R.bind {α β : Type} (r : R α) (k : α → R β) : R β := match r with
  | .ok a => k a
  | .ex c d e => .ex c d e
  | .no => .no
abbrev Cl := Nat → List Vl → R (Vl × List Vl)
abbrev CE := Cl → En → R (En × Vl)
abbrev CT := Cl → En → R (En × Bool)
inductive Fl where
  | nx | bk | ct
  | rt (v : Vl)
abbrev CS := Cl → En → R (En × Fl)

def gt : En → Nat → Option Vl
  | [], _ => none
  | v :: _, 0 => v
  | _ :: r, n + 1 => gt r n
def st : En → Nat → Option Vl → En
  | [], _, _ => []
  | _ :: r, 0, x => x :: r
  | v :: r, n + 1, x => v :: st r n x

/-! ### expressions -/
def cK (d : PyData) : CE := fun _ e => .ok (e, .f, d)
/-- a name read: what it owned is frozen -/
def cVar (i : Nat) : CE := fun _ e => match gt e i with
  | some (.f, d) => .ok (e, .f, d)
  | some (.o, d) => .ok (st e i (some (.f, d)), .f, d)
  | some (.b, d) => .ok (st e i (some (.f, d)), .f, d)
  | _ => .no
/-- an argument: an expression, or a name that is looked at -/
inductive Ar where
  | v (c : CE)
  | n (i : Nat)
def arRun : List Ar → Cl → En → R (En × List (Option Vl))
  | [], _, e => .ok (e, [])
  | .v c :: r, cl, e => (c cl e).bind fun p => (arRun r cl p.1).bind fun q => .ok (q.1, some p.2 :: q.2)
  | .n i :: r, cl, e => match gt e i with
    | some _ => (arRun r cl e).bind fun q => .ok (q.1, none :: q.2)
    | none => .no
/-- the data, the names' as they stand behind all -/
def arDat : List Ar → En → List (Option Vl) → Option (List PyData)
  | [], _, _ => some []
  | .v _ :: r, e, some x :: xs => (arDat r e xs).map (x.2 :: ·)
  | .n i :: r, e, _ :: xs => match gt e i with
    | some (.f, d) => (arDat r e xs).map (d :: ·)
    | some (.o, d) => (arDat r e xs).map (d :: ·)
    | some (.l, d) => (arDat r e xs).map (d :: ·)
    | _ => none
  | _, _, _ => none
abbrev OpF := List PyData → Option Vl
def opRes (f : OpF) (e : En) : Option (List PyData) → R (En × Vl)
  | some ds => match f ds with
    | some v => .ok (e, v)
    | none => .no
  | none => .no
def cOp (f : OpF) (as : List Ar) : CE := fun cl e => (arRun as cl e).bind fun q => opRes f q.1 (arDat as q.1 q.2)
/-- a list of values -/
def esRun : List CE → Cl → En → R (En × List Vl)
  | [], _, e => .ok (e, [])
  | c :: r, cl, e => (c cl e).bind fun p => (esRun r cl p.1).bind fun q => .ok (q.1, p.2 :: q.2)
def cTup (cs : List CE) : CE := fun cl e => (esRun cs cl e).bind fun q => .ok (q.1, .f, .tuple (q.2.map (·.2)))
def lstOw : List Vl → Ow
  | (.o, .list _) :: _ => .b
  | _ => .o
def cLst (cs : List CE) : CE := fun cl e => (esRun cs cl e).bind fun q => .ok (q.1, lstOw q.2, .list (q.2.map (·.2)))
def truth : PyData → Option Bool
  | .none => some false
  | .bool b => some b
  | .int i => some (i != 0)
  | .str x => if x.cps.toList.length ≤ sizeLine then some (x.cps.toList.length != 0) else none
  | .list xs => some (!xs.isEmpty)
  | .tuple xs => some (!xs.isEmpty)
  | .dict _ => none
def ctE (a : Ar) : CT := fun cl e => (arRun [a] cl e).bind fun q => match arDat [a] q.1 q.2 with
  | some [d] => match truth d with
    | some b => .ok (q.1, b)
    | none => .no
  | _ => .no
def ctNot (t : CT) : CT := fun cl e => (t cl e).bind fun p => .ok (p.1, !p.2)
def ctAnd (t u : CT) : CT := fun cl e => (t cl e).bind fun p => match p.2 with
  | true => u cl p.1
  | false => .ok (p.1, false)
def ctOr (t u : CT) : CT := fun cl e => (t cl e).bind fun p => match p.2 with
  | true => .ok (p.1, true)
  | false => u cl p.1
def cIfE (t : CT) (a b : CE) : CE := fun cl e => (t cl e).bind fun p => match p.2 with
  | true => a cl p.1
  | false => b cl p.1
def cNot (a : Ar) : CE := fun cl e => (ctE a cl e).bind fun p => .ok (p.1, .f, .bool (!p.2))
/-- x and y, x or y as values -/
def cAnd (a b : CE) : CE := fun cl e => (a cl e).bind fun p => match truth p.2.2 with
  | some true => b cl p.1
  | some false => .ok (p.1, .f, p.2.2)
  | none => .no
def cOr (a b : CE) : CE := fun cl e => (a cl e).bind fun p => match truth p.2.2 with
  | some false => b cl p.1
  | some true => .ok (p.1, .f, p.2.2)
  | none => .no
/-- a < b < c -/
def cChn (f g : OpF) (a b c : CE) : CE := fun cl e => (a cl e).bind fun p => (b cl p.1).bind fun q => match f [p.2.2, q.2.2] with
  | some (_, .bool true) => (c cl q.1).bind fun r => opRes g r.1 (some [q.2.2, r.2.2])
  | some (_, .bool false) => .ok (q.1, .f, .bool false)
  | _ => .no
/-- x[k] of a name, k written -/
def cIxN (f : OpF) (i : Nat) (k : Int) : CE := fun cl e => match gt e i with
  | some (.b, .list (.list es :: ds)) => if k = 0 then .ok (st e i (some (.o, .list (.list es :: ds))), .f, .list es) else if 0 < k then match ds[k.toNat - 1]? with
      | some d => .ok (e, .f, d)
      | none => .no
    else .no
  | some (.b, _) => .no
  | _ => cOp f [.n i, .v (cK (.int k))] cl e
/-- x[0] == [] of a name -/
def cIxNil (g f : OpF) (i : Nat) (ne : Bool) : CE := fun cl e => match gt e i with
  | some (.b, .list (.list es :: _)) => .ok (e, .f, .bool (ne != es.isEmpty))
  | _ => cOp g [.v (cIxN f i 0), .v (cLst [])] cl e
/-- x[0].pop() of a name -/
def cPop0 (i : Nat) : CE := fun _ e => match gt e i with
  | some (.b, .list (.list ds :: r)) => match ds.getLast? with
    | some d => .ok (st e i (some (.b, .list (.list ds.dropLast :: r))), .f, d)
    | none => .no
  | _ => .no
/-- what changes a list at a name -/
abbrev MuF := PyData → List PyData → Option (PyData × PyData)
def muRes (f : MuF) (i : Nat) (e : En) (ds : List PyData) : R (En × Vl) := match gt e i with
  | some (.o, d) => match f d ds with
    | some (d', r) => .ok (st e i (some (.o, d')), .f, r)
    | none => .no
  | _ => .no
def cMut (f : MuF) (i : Nat) (as : List Ar) : CE := fun cl e => match gt e i with
  | some (.o, .list _) => (arRun as cl e).bind fun q => match arDat as q.1 q.2 with
    | some ds => muRes f i q.1 ds
    | none => .no
  | _ => .no
/-- a method that changes nothing; ty: of which type the receiver is, at once -/
def cMeth (ty : PyData → Bool) (f : OpF) (a : Ar) (as : List Ar) : CE := fun cl e => match a with
  | .v c => (c cl e).bind fun p => if ty p.2.2 = true then (arRun as cl p.1).bind fun q => opRes f q.1 ((arDat as q.1 q.2).map (p.2.2 :: ·)) else .no
  | .n i => match gt e i with
    | some x => if ty x.2 = true then cOp f (.n i :: as) cl e else .no
    | none => .no

/-! ### calls -/
/-- names are lent -/
def caGet : List Ar → En → List (Option Vl) → Option (List Vl)
  | [], _, _ => some []
  | .v _ :: r, e, some x :: xs => (caGet r e xs).map ((.f, x.2) :: ·)
  | .n i :: r, e, _ :: xs => match gt e i with
    | some x => (caGet r e xs).map (x :: ·)
    | none => none
  | _, _, _ => none
/-- the lent ones come back: their slots, and their places among what comes back -/
def caBack : List (Nat × Nat) → List Vl → En → Option En
  | [], _, e => some e
  | (i, j) :: r, fs, e => match gt e i, fs[j]? with
    | some (.o, _), some f => (caBack r fs e).map fun e' => st e' i (some f)
    | some (.b, _), some f => (caBack r fs e).map fun e' => st e' i (some f)
    | some (.f, _), some _ => caBack r fs e
    | some (.l, _), some _ => caBack r fs e
    | _, _ => none
def caDrop : List (Nat × Nat) → En → En
  | [], e => e
  | (i, _) :: r, e => st (caDrop r e) i none
def cCall (f : Nat) (back : List (Nat × Nat)) (as : List Ar) : CE := fun cl e => (arRun as cl e).bind fun q => match caGet as q.1 q.2 with
  | some xs => match cl f xs with
    | .ok (v, fs) => match caBack back fs q.1 with
      | some e' => .ok (e', v)
      | none => .no
    | .ex c d _ => .ex c d (caDrop back q.1)
    | .no => .no
  | none => .no
/-- all values, in the order of the text; perm: for each parameter its place there -/
def cCallK (f : Nat) (perm : List Nat) (cs : List CE) : CE := fun cl e => (esRun cs cl e).bind fun q => match cl f (perm.map fun k => (.f, (q.2.getD k (.f, .none)).2)) with
  | .ok (v, _) => .ok (q.1, v)
  | .ex c d _ => .ex c d q.1
  | .no => .no

/-! ### targets -/
inductive Tg where
  | n (i : Nat)
  | t (l : List Tg)
mutual
def tgSet : Tg → PyData → En → Option En
  | .n i, d, e => match gt e i with
    | some (.l, _) => none
    | _ => some (st e i (some (.f, d)))
  | .t l, .tuple ds, e => tgSetAll l ds e
  | .t l, .list ds, e => tgSetAll l ds e
  | .t _, .none, _ => none
  | .t _, .bool _, _ => none
  | .t _, .int _, _ => none
  | .t _, .str _, _ => none
  | .t _, .dict _, _ => none
def tgSetAll : List Tg → List PyData → En → Option En
  | [], [], e => some e
  | t :: l, d :: ds, e => match tgSet t d e with
    | some e' => tgSetAll l ds e'
    | none => none
  | [], _ :: _, _ => none
  | _ :: _, [], _ => none
end

/-! ### what is walked -/
/-- arguments, and the items by their data -/
structure It where
  as : List Ar
  f : List PyData → Option (List PyData)
/-- owned names that are walked are locked -/
def lockL : List Ar → En → Option En
  | [], e => some e
  | .v _ :: r, e => lockL r e
  | .n i :: r, e => match gt e i with
    | some (.o, d) => lockL r (st e i (some (.l, d)))
    | some (.f, _) => lockL r e
    | some (.l, _) => lockL r e
    | _ => none
def unlock1 (i : Nat) (e : En) : Option En := match gt e i with
  | some (.l, d) => some (st e i (some (.o, d)))
  | _ => none
def unlockL : List Ar → En → En → Option En
  | [], _, e => some e
  | .v _ :: r, e0, e => unlockL r e0 e
  | .n i :: r, e0, e => match gt e0 i with
    | some (.o, d) => (unlockL r (st e0 i (some (.l, d))) e).bind (unlock1 i)
    | _ => unlockL r e0 e
def itRun (it : It) (cl : Cl) (e : En) : R (En × List PyData) := (arRun it.as cl e).bind fun q => match arDat it.as q.1 q.2 with
  | some ds => match it.f ds with
    | some xs => .ok (q.1, xs)
    | none => .no
  | none => .no
def forL (tg : Tg) (body : CS) (cl : Cl) : List PyData → En → R (En × Fl)
  | [], e => .ok (e, .nx)
  | d :: ds, e => match tgSet tg d e with
    | some e1 => (body cl e1).bind fun p => match p.2 with
      | .nx => forL tg body cl ds p.1
      | .ct => forL tg body cl ds p.1
      | .bk => .ok (p.1, .nx)
      | .rt v => .ok (p.1, .rt v)
    | none => .no
def cFor (it : It) (tg : Tg) (body : CS) : CS := fun cl e => (itRun it cl e).bind fun q => match lockL it.as q.1 with
  | some e1 => match forL tg body cl q.2 e1 with
    | .ok (e2, fl) => match unlockL it.as q.1 e2 with
      | some e3 => .ok (e3, fl)
      | none => .no
    | .ex _ _ _ => .no
    | .no => .no
  | none => .no
def wipeE : List Nat → En → En
  | [], e => e
  | i :: r, e => st (wipeE r e) i none
/-- the block's own slots are free or hold what is frozen -/
def ownFz : List Nat → En → Bool
  | [], _ => true
  | i :: r, e => (match gt e i with
    | none => true
    | some (.f, _) => true
    | _ => false) && ownFz r e
def backE : List Nat → En → En → En
  | [], _, e => e
  | i :: r, e0, e => st (backE r e0 e) i (gt e0 i)
def lcL (tg : Tg) (own : List Nat) (t : CT) (c : CE) (cl : Cl) : List PyData → En → List PyData → R (En × List PyData)
  | [], e, acc => .ok (e, acc)
  | d :: ds, e, acc => match tgSet tg d (wipeE own e) with
    | some e1 => (t cl e1).bind fun p => match p.2 with
      | true => (c cl p.1).bind fun q => lcL tg own t c cl ds q.1 (acc ++ [q.2.2])
      | false => lcL tg own t c cl ds p.1 acc
    | none => .no
def cLC (it : It) (tg : Tg) (own : List Nat) (t : CT) (c : CE) : CE := fun cl e => (itRun it cl e).bind fun q => match lockL it.as q.1 with
  | some e1 => if q.2.length ≤ sizeLine ∧ ownFz own e1 = true then match lcL tg own t c cl q.2 e1 [] with
      | .ok (e2, xs) => match unlockL it.as q.1 (backE own e1 e2) with
        | some e3 => .ok (e3, .o, .list xs)
        | none => .no
      | .ex _ _ _ => .no
      | .no => .no
    else .no
  | none => .no
def ctYes : CT := fun _ e => .ok (e, true)

/-! ### statements -/
def cNx : CS := fun _ e => .ok (e, .nx)
def cBk : CS := fun _ e => .ok (e, .bk)
def cCt : CS := fun _ e => .ok (e, .ct)
def cSq (a b : CS) : CS := fun cl e => (a cl e).bind fun p => match p.2 with
  | .nx => b cl p.1
  | .bk => .ok (p.1, .bk)
  | .ct => .ok (p.1, .ct)
  | .rt v => .ok (p.1, .rt v)
def cDo (c : CE) : CS := fun cl e => (c cl e).bind fun p => .ok (p.1, .nx)
def cRet (c : CE) : CS := fun cl e => (c cl e).bind fun p => .ok (p.1, .rt p.2)
/-- return x, x no parameter: it moves -/
def cMov (i : Nat) : CS := fun _ e => match gt e i with
  | some (.l, _) => .no
  | some x => .ok (st e i none, .rt x)
  | none => .no
def cIf (t : CT) (a b : CS) : CS := fun cl e => (t cl e).bind fun p => match p.2 with
  | true => a cl p.1
  | false => b cl p.1
def asgN (i : Nat) (x : Vl) (e : En) : Option En := match gt e i with
  | some (.l, _) => none
  | _ => some (st e i (some x))
def cAsg (i : Nat) (c : CE) : CS := fun cl e => (c cl e).bind fun p => match asgN i p.2 p.1 with
  | some e' => .ok (e', .nx)
  | none => .no
def cUnp (tg : Tg) (c : CE) : CS := fun cl e => (c cl e).bind fun p => match tgSet tg p.2.2 p.1 with
  | some e' => .ok (e', .nx)
  | none => .no
def asgAll : List Nat → List Vl → En → Option En
  | [], [], e => some e
  | i :: is, x :: xs, e => (asgN i x e).bind fun e' => asgAll is xs e'
  | _, _, _ => none
def cPar (is : List Nat) (cs : List CE) : CS := fun cl e => (esRun cs cl e).bind fun q => match asgAll is q.2 q.1 with
  | some e' => .ok (e', .nx)
  | none => .no
/-- x[k] = v, x a name -/
abbrev SeF := PyData → PyData → PyData → Option PyData
def seRes (f : SeF) (i : Nat) (e : En) (v : PyData) (kd : PyData) : R (En × Fl) := match gt e i with
  | some (.o, d) => match f d kd v with
    | some d' => .ok (st e i (some (.o, d')), .nx)
    | none => .no
  | some (.b, .list (.list es :: ds)) => match kd with
    | .int z => if 0 < z ∧ z < (ds.length : Int) + 1 then .ok (st e i (some (.b, .list (.list es :: ds.set (z.toNat - 1) v))), .nx) else .no
    | _ => .no
  | _ => .no
def cSet (f : SeF) (i : Nat) (k : Ar) (c : CE) : CS := fun cl e => (c cl e).bind fun p => match gt p.1 i with
  | some _ => (arRun [k] cl p.1).bind fun q => match arDat [k] q.1 q.2 with
    | some ds => seRes f i q.1 p.2.2 (ds.headD .none)
    | none => .no
  | none => .no
def whL (t : CT) (body : CS) (cl : Cl) : Nat → En → R (En × Fl)
  | 0, _ => .no
  | n + 1, e => (t cl e).bind fun p => match p.2 with
    | false => .ok (p.1, .nx)
    | true => (body cl p.1).bind fun q => match q.2 with
      | .nx => whL t body cl n q.1
      | .ct => whL t body cl n q.1
      | .bk => .ok (q.1, .nx)
      | .rt v => .ok (q.1, .rt v)
def cWh (t : CT) (body : CS) : CS := fun cl e => whL t body cl 100000 e

/-! ### functions -/
structure Fn where
  np : Nat
  ns : Nat
  io : List Nat
  body : CS
def finals (e : En) : List Nat → Option (List Vl)
  | [] => some []
  | i :: r => match gt e i with
    | some x => (finals e r).map (x :: ·)
    | none => none
def fnRun (f : Fn) (cl : Cl) (xs : List Vl) : R (Vl × List Vl) :=
  if xs.length = f.np then match f.body cl (xs.map some ++ List.replicate (f.ns - f.np) none) with
    | .ok (e, .rt v) => match finals e f.io with
      | some fs => .ok (v, fs)
      | none => .no
    | .ok (e, .nx) => match finals e f.io with
      | some fs => .ok ((.f, .none), fs)
      | none => .no
    | .ok (_, .bk) => .no
    | .ok (_, .ct) => .no
    | .ex c d _ => .ex c d []
    | .no => .no
  else .no
/-- the functions of a table, so many calls deep -/
def clN (tab : Nat → Option Fn) : Nat → Cl
  | 0, _, _ => .no
  | n + 1, f, xs => match tab f with
    | some fn => fnRun fn (clN tab n) xs
    | none => .no
end Ev
end

section
set_option Elab.async false
set_option linter.all false
set_option maxRecDepth 100000
set_option maxHeartbeats 1000000
/-! Rules with tuples whose objects are known to have no dict of their own. -/
namespace Ev
open PySem PySem.Spec PyProof.Rows L2
/-- a tuple of xs, without a dict -/
def SqN (K : PySem.W.Frag) (H : Hp) (a : Addr) (xs : List V) : Prop := (∃ o, H a = some (.frz o (.tup xs)) ∧ o.dict = none) ∨
  ∃ (o : Obj) (its : Array Value) (n : Nat), K.lookup a = some o ∧ o.cls = .type "tuple" ∧ o.dict = none ∧ o.data = .seq its n ∧ its.size ≤ sizeLine ∧ Vals xs its.toList
theorem SqN.t {K : PySem.W.Frag} {H : Hp} {a : Addr} {xs : List V} (h : SqN K H a xs) : SqT K H a xs := by
  rcases h with ⟨o, h, _⟩ | ⟨o, its, n, h1, h2, _, h4, h5, h6⟩
  · exact .inl (.inr ⟨o, h⟩)
  · exact .inr ⟨o, its, n, h1, h2, h4, h5, h6⟩
theorem SqN.same {K : PySem.W.Frag} {G G' : Hp} {a : Addr} {xs : List V} (s : Same G G') (h : SqN K G a xs) : SqN K G' a xs := h.elim (fun ⟨o, q, d⟩ => .inl ⟨o, s _ _ q, d⟩) .inr
section
variable {X : Cx} {pins : List (Addr × Obj)} {σ : L2.St} {H : Hp} {s : Shared}
theorem SqN.typ {a : Addr} {xs : List V} (I : Inv X pins σ H s) (h : SqN X.K H a xs) : s.TypeIs (.ref a) "tuple" ∧ ∃ ob, s.heap.get? a = some ob ∧ ob.dict = none := by
  rcases h with ⟨o, h, d⟩ | ⟨o, its, n, h1, h2, h3, _⟩
  · obtain ⟨e, ok⟩ : s.heap.get? a = some o ∧ ObjOk X.prog X.w H s.heap a (.tup xs) := I.hok a _ h
    obtain ⟨_, its, _, p⟩ := ok
    exact ⟨p.typeIs, o, e, d⟩
  · have e := I.kIn a o h1
    exact ⟨⟨o, e, h2⟩, o, e, h3⟩
/-- a new tuple -/
def TupQ (H : Hp) (xs : List V) (Q : VK) : Prop := ∀ p o, H p = none → o.dict = none → Q (.ref p) (upd H p (.frz o (.tup xs)))
theorem tup_new {its : List Value} {xs : List V} {Q : VK} {t' : Nat} (I : Inv X pins σ H s) (r : Vals xs its) (z : xs.length ≤ sizeLine) (q : TupQ H xs Q) :
    EP X pins σ Q (.ref s.heap.objs.size) { s with heap := s.heap.push { cls := .type "tuple", data := .seq its.toArray }, toks := t' } := by
  have hf : H s.heap.objs.size = none := I.hok.fresh (Nat.le_refl _)
  refine ⟨.ref s.heap.objs.size, _, I.laid (t' := t') (fun b u e => Heap.get?_push_of_some _ e) (Nat.le_refl _) ?_, rfl, q _ { cls := .type "tuple", data := .seq its.toArray } hf rfl⟩
  exact ⟨Heap.get?_push_size _ rfl, z, its, r, IsTup.new _ _⟩
def tTupN (t : TA) : TE := fun σ H Q => t σ H fun xs H1 => xs.length ≤ sizeLine ∧ TupQ H1 xs Q
theorem pe_tupN {es : List Expr} {t : TA} {pos : Pos} {x1} (h : PA X es t) : PE X (.Tuple es x1 pos) (tTupN t) := by
  refine ⟨fun pins s σ H Q I hq => ?_⟩
  exact wpAny_Tuple_spliced (thn (h.run pos pins s σ H _ I hq) fun us s1 ⟨xs, H1, I1, r, z, q⟩ => ⟨by rw [← r.length]; exact z, tup_new I1 r z q⟩)
def rCatN (K : PySem.W.Frag) : R2 := fun x y H Q => ∃ a b xs ys, x = .ref a ∧ y = .ref b ∧ SqT K H a xs ∧ SqT K H b ys ∧ xs.length + ys.length ≤ sizeLine ∧ (xs = [] → Q (.ref b) H) ∧ (xs ≠ [] → ys = [] → Q (.ref a) H) ∧ (xs ≠ [] → ys ≠ [] → TupQ H (xs ++ ys) Q)
theorem op_catN : OpR X (binaryOp .Add) (rCatN X.K) := by
  intro pins s σ H x y v u Q I rx ry h
  obtain ⟨a, b, xs, ys, rfl, rfl, ha, hb, hz, q0, q1, q2⟩ := h
  cases rx
  cases ry
  obtain ⟨its, r1, p1, _⟩ := I.tuple ha
  obtain ⟨its2, r2, p2, _⟩ := I.tuple hb
  by_cases hx : xs = []
  · subst hx
    cases r1
    exact cat_tup0 p1 p2 ⟨.ref b, H, I, rfl, q0 rfl⟩
  · refine HT.cat_tup p1 p2 (fun z => hx (r1.nil_iff.mp z)) (fun z => ⟨.ref a, H, I, rfl, q1 hx (r2.nil_iff.mp z)⟩) (fun z => ?_) (by rw [← r1.length, ← r2.length]; exact hz)
    exact tup_new (t' := s.toks) I (r1.append r2) (by rw [List.length_append]; exact hz) (q2 hx fun w => z (r2.nil_iff.mpr w))
def rSlN (K : PySem.W.Frag) : V → Option Int → Option Int → Hp → VK → Prop := fun x lo hi H Q => ∃ a xs, x = .ref a ∧ SqT K H a xs ∧
  (HT.sIx xs.length 0 lo = 0 ∧ HT.sIx xs.length xs.length hi = xs.length → Q (.ref a) H) ∧ (¬ (HT.sIx xs.length 0 lo = 0 ∧ HT.sIx xs.length xs.length hi = xs.length) → TupQ H (cutV xs lo hi) Q)
theorem sl_tupN : SlR X (rSlN X.K) := by
  intro pins s σ H x v vl vu lo hi sl Q I rx hs pl pu h
  obtain ⟨a, xs, rfl, hx, q1, q2⟩ := h
  cases rx
  obtain ⟨its, r, ht, hz⟩ := I.tuple hx
  have hlen : its.toArray.size = xs.length := by rw [List.size_toArray]; exact r.length.symm
  refine ⟨"tuple", _, PyProof.Rows.slot_tuple_getitem.lookup, ht.typeIs, ?_⟩
  by_cases hw : HT.sIx xs.length 0 lo = 0 ∧ HT.sIx xs.length xs.length hi = xs.length
  · exact getItem_tuple_whole ht hs pl pu (by rw [hlen]; exact hw) ⟨.ref a, H, I, rfl, q1 hw⟩
  · refine HT.getItem_tuple_cut ht hs pl pu (by rw [hlen]; exact hw) ?_ (by rw [hlen]; exact hz)
    rw [hlen]
    exact tup_new (t' := s.toks) I ((r.drop (HT.sIx xs.length 0 lo)).take (HT.sIx xs.length xs.length hi - HT.sIx xs.length 0 lo)) (Nat.le_trans (cutV_length xs lo hi) hz) (q2 hw)
theorem call_tupleN : CallR X (.type "tuple") (fun xs H Q => ∃ p ys, xs = [.ref p] ∧ ((SqL X.K H p ys ∧ TupQ H ys Q) ∨ (SqT X.K H p ys ∧ Q (.ref p) H))) := by
  intro pins s σ H xs us Q I r h
  obtain ⟨p, ys, rfl, h⟩ := h
  obtain ⟨u, rfl, rx⟩ := vals1 r
  cases rx
  rcases h with ⟨hq, q⟩ | ⟨hq, q⟩
  · obtain ⟨its, r', pl, hz⟩ := I.list hq
    have hlen := r'.length
    refine call_tuple_list pl.isList (fun h' kp => ?_) (by simp only [List.size_toArray] <;> omega)
    have I1 : Inv X pins σ H { s with heap := h' } := I.kept (t' := s.toks) kp
    exact tup_new (t' := s.toks) I1 r' hz q
  · obtain ⟨its, r', pl, hz⟩ := I.tuple hq
    exact call_tuple_same pl ⟨.ref p, H, I, rfl, q⟩
theorem Inv.lstR {l : Addr} {xs : List V} (I : Inv X pins σ H s) (hH : Rd H l (.lst xs)) : xs.length ≤ sizeLine ∧ ∃ (its : List Value) (n : Nat), Vals xs its ∧ xs.length = its.length ∧ s.heap.get? l = some { cls := .type "list", data := .seq its.toArray n } := by
  obtain ⟨z, its, n, r, e⟩ := hH.ok I.hok
  exact ⟨z, its, n, r, r.length, e⟩
def rCatR : R2 := fun x y H Q => ∃ l b xs zs, x = .ref l ∧ y = .ref b ∧ Rd H l (.lst xs) ∧ Rd H b (.lst zs) ∧ xs.length + zs.length ≤ sizeLine ∧ ∀ p, H p = none → Q (.ref p) (upd H p (.lst (xs ++ zs)))
theorem op_catR : OpR X (binaryOp .Add) rCatR := by
  intro pins s σ H x y v u Q I rx ry h
  obtain ⟨l, b, xs, zs, rfl, rfl, hH, hB, hz, q⟩ := h
  cases rx
  cases ry
  obtain ⟨z, its, n, r, hl, e⟩ := Inv.lstR I hH
  obtain ⟨z2, its2, n2, r2, hl2, e2⟩ := Inv.lstR I hB
  refine PySem.P.add_list e e2 ?_ (by rw [List.size_toArray, List.size_toArray]; omega)
  have ea : its.toArray ++ its2.toArray = (its ++ its2).toArray := by simp
  rw [ea]
  exact ⟨.ref _, _, I.lnew (t' := s.toks) (r.append r2) (by rw [List.length_append]; omega), rfl, q _ I.fresh⟩
def rRepR : R2 := fun x y H Q => ∃ l k xs, x = .ref l ∧ y = .int k ∧ Rd H l (.lst xs) ∧ -(2 ^ 63) ≤ k ∧ k < 2 ^ 63 ∧ xs.length * k.toNat ≤ sizeLine ∧
  ∀ p, H p = none → Q (.ref p) (upd H p (.lst (List.replicate k.toNat xs).flatten))
theorem op_repR : OpR X (binaryOp .Mult) rRepR := by
  intro pins s σ H x y v u Q I rx ry h
  obtain ⟨l, k, xs, rfl, rfl, hH, h1, h2, hz, q⟩ := h
  cases rx
  obtain ⟨t, rfl⟩ := ry
  obtain ⟨z, its, n, r, hl, e⟩ := Inv.lstR I hH
  have hlen : its.toArray.size * k.toNat ≤ sizeLine := by rw [List.size_toArray, ← hl]; exact hz
  have hcap : ¬ its.toArray.size * k.toNat > (2 ^ 63 - 1) / 8 := by
    have : (sizeLine : Nat) ≤ (2 ^ 63 - 1) / 8 := by decide
    omega
  have hfit : ¬ (!Builtin.List.listFitsIndex k) = true := by
    rw [fitsIndex_both h1 h2]
    exact Bool.false_ne_true
  have hlong : ¬ Builtin.List.listTooLong (its.toArray.size * k.toNat) = true := by
    rw [notLongL hlen]
    exact Bool.false_ne_true
  have hnew : List.foldl (fun x1 x2 => x1 ++ x2) #[] (List.replicate (if its.toArray.isEmpty = true then 0 else k.toNat) its.toArray) = (List.replicate k.toNat its).flatten.toArray := by
    have f0 : ∀ m : Nat, List.foldl (fun x1 x2 => x1 ++ x2) #[] (List.replicate m its.toArray) = (List.replicate m its).flatten.toArray := fun m => by
      have := foldl_rep its m []
      rw [List.nil_append] at this
      exact this
    rw [f0]
    cases its with
    | nil => simp
    | cons a r' => rw [if_neg (by simp)]
  refine wpAny_binaryOp_repeat_ref (T := "list") (U := "int") (by decide) ⟨_, e, rfl⟩ (fun s' => typeIs_int s' k t) noFill_list_mul F.fills_int_mul F.slot_int_rmul repeat_list F.slot_int_index.lookup
    (call_meets F.slot_int_rmul (typeIs_int s k t) F.entry_int_rmul (F.args_int_rmul_2 _ _) (int___rmul___int_list k t l its.toArray n)
      ⟨e, rfl, ⟨_, e, rfl⟩, call_meets F.slot_list_mul ⟨_, e, rfl⟩ F.entry_list_mul (F.args_list_mul_2 _ _) (AutoListH.list___mul___list_int_3 l its.toArray n k t hfit hcap hlong) ⟨e, ?_⟩⟩)
  rw [hnew]
  exact ⟨.ref _, _, I.lnew (t' := s.toks) (r.rep k.toNat) (by rw [PyProof.Rows.lm_len_rep_flat, Nat.mul_comm]; exact hz), rfl, q _ I.fresh⟩
/-- xs.extend(ys) -/
def rExtR (K : PySem.W.Frag) : V → List V → Hp → VK → Prop := fun x vs H Q => ∃ l b xs zs, x = .ref l ∧ vs = [.ref b] ∧ H l = some (.lst xs) ∧ Rd H b (.lst zs) ∧ xs.length + zs.length ≤ sizeLine ∧ Q .non (upd H l (.lst (xs ++ zs)))
theorem mt_extR : MtM X "list.extend" (rExtR X.K) := by
  intro pins s σ H x vs v us Q I rx rv h
  obtain ⟨l, b, xs, zs, rfl, rfl, hH, hB, hz, q⟩ := h
  cases rx
  obtain ⟨u, rfl, ru⟩ := rv.one
  cases ru
  obtain ⟨z, its, n, r, hl, e⟩ := I.lstM hH
  obtain ⟨z2, its2, n2, r2, hl2, e2⟩ := Inv.lstR I hB
  have hsz : its.toArray.size + its2.toArray.size ≤ sizeLine := by rw [List.size_toArray, List.size_toArray]; omega
  have hlong : ¬ (!its.toArray.isEmpty && Builtin.List.listTooLong (its.toArray.size + its2.toArray.size)) = true := by
    rw [notLongL hsz, Bool.and_false]
    exact Bool.false_ne_true
  refine call_meets F.slot_list_extend ⟨_, e, rfl⟩ F.entry_list_extend (F.args_list_extend_2 _ _)
    (AutoSeq1.list_extend_list_list_0 l its.toArray n b its2.toArray n2 hlong (by rw [List.size_toArray]; omega) (by omega)) ⟨e, e2, ?_⟩
  refine ⟨.non, _, I.lset (its' := its ++ its2) hH e (by simp) (r.append r2) ?_, rfl, q⟩
  rw [List.length_append]
  omega
end
end Ev
end

section
set_option Elab.async false
set_option linter.all false
set_option maxRecDepth 100000
/-! What the data stand for in the heap; steps. -/
namespace Ev
open PySem PySem.Spec PyProof.Rows L2

/-! ### frozen data -/
inductive Fz (K : PySem.W.Frag) (G : Hp) : V → PyData → Prop
  | non : Fz K G .non .none
  | bl (b : Bool) : Fz K G (.bl b) (.bool b)
  | int (i : Int) : Fz K G (.int i) (.int i)
  | str (x : Str) : PyData.strOk x = true → Fz K G (.str x) (.str x)
  | lst {a : Addr} {xs : List V} {ds : List PyData} : Rd G a (.lst xs) → xs.length = ds.length → (∀ (i : Nat) v d, xs[i]? = some v → ds[i]? = some d → Fz K G v d) → Fz K G (.ref a) (.list ds)
  | tup {a : Addr} {xs : List V} {ds : List PyData} : SqN K G a xs → xs.length = ds.length → (∀ (i : Nat) v d, xs[i]? = some v → ds[i]? = some d → Fz K G v d) → Fz K G (.ref a) (.tuple ds)
structure FzA (K : PySem.W.Frag) (G : Hp) (xs : List V) (ds : List PyData) : Prop where
  len : xs.length = ds.length
  at_ : ∀ (i : Nat) v d, xs[i]? = some v → ds[i]? = some d → Fz K G v d
section
variable {K : PySem.W.Frag} {G G' H H' : Hp} {P P' F F' T T' : Addr → Prop}
theorem Rd.same {a : Addr} {u : HO} (s : Same G G') (h : Rd G a u) : Rd G' a u := h.elim (fun q => .inl (s _ _ q)) fun ⟨o, q⟩ => .inr ⟨o, s _ _ q⟩
theorem Fz.mono (s : Same G G') {v : V} {d : PyData} (h : Fz K G v d) : Fz K G' v d := by
  induction h with
  | non => exact .non
  | bl b => exact .bl b
  | int i => exact .int i
  | str x hx => exact .str x hx
  | lst hr hl _ ih => exact .lst (Rd.same s hr) hl ih
  | tup hr hl _ ih => exact .tup (SqN.same s hr) hl ih
theorem FzA.mono (s : Same G G') {xs : List V} {ds : List PyData} (h : FzA K G xs ds) : FzA K G' xs ds := ⟨h.len, fun i v d a b => (h.at_ i v d a b).mono s⟩
theorem FzA.nil : FzA K G [] [] := ⟨rfl, fun i v d a => by simp at a⟩
theorem FzA.cons {v : V} {d : PyData} {xs : List V} {ds : List PyData} (h : Fz K G v d) (t : FzA K G xs ds) : FzA K G (v :: xs) (d :: ds) := by
  refine ⟨by simp [t.len], fun i v' d' a b => ?_⟩
  cases i with
  | zero =>
    simp at a b
    subst a b
    exact h
  | succ i => exact t.at_ i v' d' (by simpa using a) (by simpa using b)
theorem FzA.head {v : V} {d : PyData} {xs : List V} {ds : List PyData} (h : FzA K G (v :: xs) (d :: ds)) : Fz K G v d := h.at_ 0 v d rfl rfl
theorem FzA.tail {v : V} {d : PyData} {xs : List V} {ds : List PyData} (h : FzA K G (v :: xs) (d :: ds)) : FzA K G xs ds :=
  ⟨by have := h.len; simpa using this, fun i v' d' a b => h.at_ (i + 1) v' d' (by simpa using a) (by simpa using b)⟩
theorem FzA.nil_r {xs : List V} (h : FzA K G xs []) : xs = [] := by
  have := h.len
  simpa using this
theorem FzA.nil_l {ds : List PyData} (h : FzA K G [] ds) : ds = [] := by
  have := h.len
  simpa using this.symm
theorem FzA.cons_r {xs : List V} {d : PyData} {ds : List PyData} (h : FzA K G xs (d :: ds)) : ∃ v r, xs = v :: r ∧ Fz K G v d ∧ FzA K G r ds := by
  cases xs with
  | nil => have := h.len; simp at this
  | cons v r => exact ⟨v, r, rfl, h.head, h.tail⟩
theorem FzA.append {xs ys : List V} {ds es : List PyData} (h : FzA K G xs ds) (t : FzA K G ys es) : FzA K G (xs ++ ys) (ds ++ es) := by
  refine ⟨by simp [h.len, t.len], fun i v d a b => ?_⟩
  by_cases hi : i < xs.length
  · rw [List.getElem?_append_left hi] at a
    rw [List.getElem?_append_left (by rw [← h.len]; exact hi)] at b
    exact h.at_ i v d a b
  · rw [List.getElem?_append_right (by omega)] at a
    rw [List.getElem?_append_right (by rw [← h.len]; omega), ← h.len] at b
    exact t.at_ _ v d a b
theorem FzA.take {xs : List V} {ds : List PyData} (n : Nat) (h : FzA K G xs ds) : FzA K G (xs.take n) (ds.take n) := by
  refine ⟨by simp [h.len], fun i v d a b => ?_⟩
  rw [List.getElem?_take] at a b
  split at a
  · rename_i hi
    rw [if_pos hi] at b
    exact h.at_ i v d a b
  · cases a
theorem FzA.drop {xs : List V} {ds : List PyData} (n : Nat) (h : FzA K G xs ds) : FzA K G (xs.drop n) (ds.drop n) := by
  refine ⟨by simp [h.len], fun i v d a b => ?_⟩
  rw [List.getElem?_drop] at a b
  exact h.at_ _ v d a b
theorem FzA.reverse {xs : List V} {ds : List PyData} (h : FzA K G xs ds) : FzA K G xs.reverse ds.reverse := by
  refine ⟨by simp [h.len], fun i v d a b => ?_⟩
  have hi : i < xs.length := by
    have := (List.getElem?_eq_some_iff.mp a).1
    simpa using this
  rw [List.getElem?_reverse hi] at a
  rw [List.getElem?_reverse (by rw [← h.len]; exact hi), ← h.len] at b
  exact h.at_ _ v d a b
theorem FzA.eraseIdx {xs : List V} {ds : List PyData} (n : Nat) (h : FzA K G xs ds) : FzA K G (xs.eraseIdx n) (ds.eraseIdx n) := by
  have e1 := List.eraseIdx_eq_take_drop_succ xs n
  have e2 := List.eraseIdx_eq_take_drop_succ ds n
  rw [e1, e2]
  exact (h.take n).append (h.drop (n + 1))
theorem FzA.set {xs : List V} {ds : List PyData} {v : V} {d : PyData} (n : Nat) (h : FzA K G xs ds) (q : Fz K G v d) : FzA K G (xs.set n v) (ds.set n d) := by
  refine ⟨by simp [h.len], fun i v' d' a b => ?_⟩
  by_cases hn : n = i
  · subst hn
    by_cases hl : n < xs.length
    · rw [List.getElem?_set_self hl] at a
      rw [List.getElem?_set_self (by rw [← h.len]; exact hl)] at b
      cases a
      cases b
      exact q
    · rw [List.getElem?_eq_none (by simpa using hl)] at a
      cases a
  · rw [List.getElem?_set_ne hn] at a b
    exact h.at_ i v' d' a b
theorem FzA.get {xs : List V} {ds : List PyData} {i : Nat} {d : PyData} (h : FzA K G xs ds) (e : ds[i]? = some d) : ∃ v, xs[i]? = some v ∧ Fz K G v d := by
  have hi : i < xs.length := by
    rw [h.len]
    exact (List.getElem?_eq_some_iff.mp e).1
  exact ⟨xs[i], by simp [hi], h.at_ i _ d (by simp [hi]) e⟩
theorem FzA.get' {xs : List V} {ds : List PyData} {i : Nat} {v : V} (h : FzA K G xs ds) (e : xs[i]? = some v) : ∃ d, ds[i]? = some d ∧ Fz K G v d := by
  have hi : i < ds.length := by
    rw [← h.len]
    exact (List.getElem?_eq_some_iff.mp e).1
  exact ⟨ds[i], by simp [hi], h.at_ i v _ e (by simp [hi])⟩
theorem Fz.lst' {a : Addr} {xs : List V} {ds : List PyData} (r : Rd G a (.lst xs)) (h : FzA K G xs ds) : Fz K G (.ref a) (.list ds) := .lst r h.len h.at_
theorem Fz.tup' {a : Addr} {xs : List V} {ds : List PyData} (r : SqN K G a xs) (h : FzA K G xs ds) : Fz K G (.ref a) (.tuple ds) := .tup r h.len h.at_
theorem Fz.ints {ns : List Int} : FzA K G (ns.map V.int) (ns.map PyData.int) := by
  refine ⟨by simp, fun i v d a b => ?_⟩
  rw [List.getElem?_map] at a b
  cases e : ns[i]? with
  | none => rw [e] at a; cases a
  | some n =>
    rw [e] at a b
    cases a
    cases b
    exact .int n
theorem Fz.lay {v : V} {d : PyData} (h : Fz K G v d) : PyData.canLay0 d = true := by
  have all : ∀ ds : List PyData, (∀ (i : Nat) d, ds[i]? = some d → PyData.canLay0 d = true) → PyData.canLayAll0 ds = true := by
    intro ds
    induction ds with
    | nil => intro _; simp [PyData.canLayAll0]
    | cons d ds ih =>
      intro h
      rw [PyData.canLayAll0, h 0 d rfl, ih fun i d' e => h (i + 1) d' (by simpa using e)]
      rfl
  induction h with
  | non => simp [PyData.canLay0]
  | bl b => simp [PyData.canLay0]
  | int i => simp [PyData.canLay0]
  | str x hx => simpa [PyData.canLay0] using hx
  | @lst a xs ds hr hl hh ih =>
    rw [PyData.canLay0]
    refine all ds fun i d e => ?_
    have hi : i < xs.length := by rw [hl]; exact (List.getElem?_eq_some_iff.mp e).1
    exact ih i xs[i] d (by simp [hi]) e
  | @tup a xs ds hr hl hh ih =>
    rw [PyData.canLay0]
    refine all ds fun i d e => ?_
    have hi : i < xs.length := by rw [hl]; exact (List.getElem?_eq_some_iff.mp e).1
    exact ih i xs[i] d (by simp [hi]) e
theorem Fz.dp {v : V} {d : PyData} (h : Fz K G v d) : Dp K G v d := by
  have all : ∀ (xs : List V) (ds : List PyData), xs.length = ds.length → (∀ (i : Nat) v d, xs[i]? = some v → ds[i]? = some d → Dp K G v d) → DpAll K G xs ds := by
    intro xs
    induction xs with
    | nil =>
      intro ds hl _
      have : ds = [] := by simpa using hl.symm
      subst this
      exact .nil
    | cons x xs ih =>
      intro ds hl hh
      cases ds with
      | nil => simp at hl
      | cons d ds => exact .cons (hh 0 x d rfl rfl) (ih ds (by simpa using hl) fun i v d a b => hh (i + 1) v d (by simpa using a) (by simpa using b))
  induction h with
  | non => exact .non
  | bl b => exact .bl b
  | int i => exact .int i
  | str x hx => exact .str x
  | lst hr hl hh ih => exact .lst (.inl hr) (all _ _ hl ih)
  | tup hr hl hh ih => exact .tup hr.t (all _ _ hl ih)

/-! ### what a slot, a result holds -/
def OwnL (K : PySem.W.Frag) (H G : Hp) (v : V) (d : PyData) (T : Addr → Prop) : Prop := ∃ a xs ds, v = .ref a ∧ d = .list ds ∧ H a = some (.lst xs) ∧ FzA K G xs ds ∧ T a
def OwnB (K : PySem.W.Frag) (H G : Hp) (v : V) (d : PyData) (T : Addr → Prop) : Prop :=
  ∃ a b xs ys ds es, v = .ref a ∧ d = .list (.list es :: ds) ∧ H a = some (.lst (.ref b :: xs)) ∧ H b = some (.lst ys) ∧ FzA K G xs ds ∧ FzA K G ys es ∧ T a ∧ T b ∧ a ≠ b
def LokL (K : PySem.W.Frag) (H G : Hp) (P : Addr → Prop) (v : V) (d : PyData) : Prop := ∃ a xs ds, v = .ref a ∧ d = .list ds ∧ H a = some (.lst xs) ∧ FzA K G xs ds ∧ P a
def Ro (K : PySem.W.Frag) (H G : Hp) (P : Addr → Prop) : Ow → V → PyData → (Addr → Prop) → Prop
  | .f, v, d, _ => Fz K G v d
  | .l, v, d, _ => LokL K H G P v d
  | .o, v, d, T => OwnL K H G v d T
  | .b, v, d, T => OwnB K H G v d T
/-- a value in hand: as a slot's, but never locked -/
def Rv (K : PySem.W.Frag) (H G : Hp) : Ow → V → PyData → (Addr → Prop) → Prop
  | .f, v, d, _ => Fz K G v d
  | .l, _, _, _ => False
  | .o, v, d, T => OwnL K H G v d T
  | .b, v, d, T => OwnB K H G v d T
theorem Rv.ro {K : PySem.W.Frag} {H G : Hp} {P T : Addr → Prop} {ow : Ow} {v : V} {d : PyData} (r : Rv K H G ow v d T) : Ro K H G P ow v d T := by
  cases ow with
  | f => exact r
  | l => exact r.elim
  | o => exact r
  | b => exact r
abbrev NoA : Addr → Prop := fun _ => False
structure Env1 (K : PySem.W.Frag) (P : Nat → Addr → Prop) (H G : Hp) (F : Addr → Prop) (e : En) (σ : L2.St) : Prop where
  pv : ∀ a, (∃ i, P i a) → ¬ F a ∧ H a ≠ none ∧ G a = none
  sub : Same G H
  dis : ∀ a, F a → G a = none
  lv : ∀ a, F a → H a ≠ none
  len : e.length = σ.length
  fp : ∃ fp : Nat → Addr → Prop, (∀ i x, gt e i = some x → ∃ v, σ[i]? = some (some v) ∧ Ro K H G (P i) x.1 v x.2 (fp i)) ∧ (∀ i a, fp i a → F a) ∧ ∀ i j a, fp i a → fp j a → i = j
structure Stp (H G : Hp) (F : Addr → Prop) (H' G' : Hp) (F' T : Addr → Prop) : Prop where
  sg : Same G G'
  fr : ∀ a o, ¬ F a → H a = some o → H' a = some o
  gd : ∀ a, G' a ≠ none → G a ≠ none ∨ F a ∨ H a = none
  fd : ∀ a, F' a ∨ T a → F a ∨ H a = none
  dj : ∀ a, F' a → ¬ T a
  tg : ∀ a, T a → G' a = none
  tl : ∀ a, T a → H' a ≠ none
theorem Stp.refl : Stp H G F H G F NoA := ⟨Same.refl _, fun _ _ _ h => h, fun _ h => .inl h, fun _ h => h.elim .inl False.elim, fun _ _ h => h, fun _ h => h.elim, fun _ h => h.elim⟩
theorem Stp.sub {T' : Addr → Prop} (s : Stp H G F H' G' F' T) (h : ∀ a, T' a → T a) : Stp H G F H' G' F' T' :=
  ⟨s.sg, s.fr, s.gd, fun a q => s.fd a (q.imp_right (h a)), fun a q z => s.dj a q (h a z), fun a q => s.tg a (h a q), fun a q => s.tl a (h a q)⟩
theorem Stp.drop (s : Stp H G F H' G' F' T) : Stp H G F H' G' F' NoA := s.sub fun _ h => h.elim
theorem Stp.dead (s : Stp H G F H' G' F' T) {a : Addr} (h : F' a ∨ H' a = none) : F a ∨ H a = none := by
  rcases h with h | h
  · exact s.fd a (.inl h)
  · by_cases hf : F a
    · exact .inl hf
    · refine .inr ?_
      cases q : H a with
      | none => rfl
      | some o => rw [s.fr a o hf q] at h; cases h
section
variable {H1 H2 G1 G2 : Hp} {F1 F2 T1 T2 : Addr → Prop}
theorem Stp.trans (s : Stp H G F H1 G1 F1 T1) (t : Stp H1 G1 F1 H2 G2 F2 T2) : Stp H G F H2 G2 F2 (fun a => T1 a ∨ T2 a) where
  sg := s.sg.trans t.sg
  fr := fun a o nf h => t.fr a o (fun q => by
    rcases s.fd a (.inl q) with z | z
    · exact nf z
    · rw [h] at z; cases z) (s.fr a o nf h)
  gd := fun a h => by
    rcases t.gd a h with q | q
    · exact s.gd a q
    · exact .inr (s.dead q)
  fd := fun a h => by
    rcases h with h | h | h
    · exact s.dead (t.fd a (.inl h))
    · exact s.fd a (.inr h)
    · exact s.dead (t.fd a (.inr h))
  dj := fun a h q => by
    rcases q with q | q
    · rcases t.fd a (.inl h) with z | z
      · exact s.dj a z q
      · exact s.tl a q z
    · exact t.dj a h q
  tg := fun a h => by
    rcases h with h | h
    · cases q : G2 a with
      | none => rfl
      | some o =>
        rcases t.gd a (by rw [q]; simp) with z | z | z
        · exact absurd (s.tg a h) z
        · exact absurd h (s.dj a z)
        · exact absurd z (s.tl a h)
    · exact t.tg a h
  tl := fun a h => by
    rcases h with h | h
    · cases q : H1 a with
      | none => exact absurd q (s.tl a h)
      | some o =>
        rw [t.fr a o (fun z => s.dj a z h) q]
        simp
    · exact t.tl a h
/-- what was made first and what was made then stand apart -/
theorem Stp.apart (s : Stp H G F H1 G1 F1 T1) (t : Stp H1 G1 F1 H2 G2 F2 T2) : ∀ a, T1 a → ¬ T2 a := fun a h q => by
  rcases t.fd a (.inr q) with z | z
  · exact s.dj a z h
  · exact s.tl a h z
theorem Stp.trans0 (s : Stp H G F H1 G1 F1 T1) (t : Stp H1 G1 F1 H2 G2 F2 T2) : Stp H G F H2 G2 F2 T2 := (s.trans t).sub fun _ h => .inr h
/-- what waits is kept -/
theorem Ro.step {ow : Ow} {v : V} {d : PyData} (r : Ro K H1 G1 P ow v d T1) (h1 : ∀ a, T1 a → ¬ F1 a) (hp : ∀ a, P a → ¬ F1 a) (t : Stp H1 G1 F1 H2 G2 F2 T2) : Ro K H2 G2 P ow v d T1 := by
  cases ow with
  | f => exact Fz.mono t.sg r
  | l =>
    obtain ⟨a, xs, ds, rfl, rfl, ha, hf, na⟩ := r
    exact ⟨a, xs, ds, rfl, rfl, t.fr a _ (hp a na) ha, hf.mono t.sg, na⟩
  | o =>
    obtain ⟨a, xs, ds, rfl, rfl, ha, hf, na⟩ := r
    exact ⟨a, xs, ds, rfl, rfl, t.fr a _ (h1 a na) ha, hf.mono t.sg, na⟩
  | b =>
    obtain ⟨a, b, xs, ys, ds, es, rfl, rfl, ha, hb, hx, hy, na, nb, ne⟩ := r
    exact ⟨a, b, xs, ys, ds, es, rfl, rfl, t.fr a _ (h1 a na) ha, t.fr b _ (h1 b nb) hb, hx.mono t.sg, hy.mono t.sg, na, nb, ne⟩
theorem Rv.step {ow : Ow} {v : V} {d : PyData} (r : Rv K H1 G1 ow v d T1) (h1 : ∀ a, T1 a → ¬ F1 a) (t : Stp H1 G1 F1 H2 G2 F2 T2) : Rv K H2 G2 ow v d T1 := by
  have q := (Rv.ro (P := NoA) r).step h1 (fun _ z => z.elim) t
  cases ow with
  | l => exact r.elim
  | f => exact q
  | o => exact q
  | b => exact q
theorem Stp.np (t : Stp H1 G1 F1 H2 G2 F2 T2) (hp : ∀ a, P a → ¬ F1 a ∧ H1 a ≠ none ∧ G1 a = none) : ∀ a, P a → ¬ T2 a := fun a z q => (t.fd a (.inr q)).elim (hp a z).1 (hp a z).2.1
/-- what is locked elsewhere stays so -/
theorem Stp.pv (t : Stp H1 G1 F1 H2 G2 F2 T2) (hp : ∀ a, P a → ¬ F1 a ∧ H1 a ≠ none ∧ G1 a = none) : ∀ a, P a → ¬ F2 a ∧ H2 a ≠ none ∧ G2 a = none := fun a z => by
  obtain ⟨h1, h2, h3⟩ := hp a z
  refine ⟨fun q => (t.fd a (.inl q)).elim h1 h2, ?_, ?_⟩
  · cases q : H1 a with
    | none => exact absurd q h2
    | some o => rw [t.fr a o h1 q]; simp
  · cases q : G2 a with
    | none => rfl
    | some o =>
      rcases t.gd a (by rw [q]; simp) with w | w | w
      · exact absurd h3 w
      · exact absurd w h1
      · exact absurd w h2
end
/-- more is shared -/
theorem Ro.more {ow : Ow} {v : V} {d : PyData} (r : Ro K H G P ow v d T) (s : Same G G') : Ro K H G' P ow v d T := by
  cases ow with
  | f => exact Fz.mono s r
  | l =>
    obtain ⟨a, xs, ds, h1, h2, h3, h4, h5⟩ := r
    exact ⟨a, xs, ds, h1, h2, h3, h4.mono s, h5⟩
  | o =>
    obtain ⟨a, xs, ds, h1, h2, h3, h4, h5⟩ := r
    exact ⟨a, xs, ds, h1, h2, h3, h4.mono s, h5⟩
  | b =>
    obtain ⟨a, b, xs, ys, ds, es, h1, h2, h3, h4, h5, h6, h7⟩ := r
    exact ⟨a, b, xs, ys, ds, es, h1, h2, h3, h4, h5.mono s, h6.mono s, h7⟩
theorem Env1.more {e : En} {σ : L2.St} {P : Nat → Addr → Prop} (x : Env1 K P H G F e σ) (s : Same G G') (t : Same G' H) (d : ∀ a, F a → G' a = none) (dp : ∀ a, (∃ i, P i a) → G' a = none) : Env1 K P H G' F e σ :=
  ⟨fun a z => ⟨(x.pv a z).1, (x.pv a z).2.1, dp a z⟩, t, d, x.lv, x.len, let ⟨fp, h1, h2, h3⟩ := x.fp; ⟨fp, fun i y q => let ⟨v, a, b⟩ := h1 i y q; ⟨v, a, b.more s⟩, h2, h3⟩⟩
/-- the heap grows -/
theorem Env1.grow {e : En} {σ : L2.St} {P : Nat → Addr → Prop} (x : Env1 K P H G F e σ) (s : Same H H') (sg : Same G G') (t : Same G' H') (d : ∀ a, F a → G' a = none) (dp : ∀ a, (∃ i, P i a) → G' a = none) : Env1 K P H' G' F e σ := by
  obtain ⟨fp, h1, h2, h3⟩ := x.fp
  refine ⟨fun a z => ⟨(x.pv a z).1, ?_, dp a z⟩, t, d, fun a h => ?_, x.len, fp, fun i y q => ?_, h2, h3⟩
  · cases q : H a with
    | none => exact absurd q (x.pv a z).2.1
    | some o => rw [s a o q]; simp
  · cases q : H a with
    | none => exact absurd q (x.lv a h)
    | some o => rw [s a o q]; simp
  · obtain ⟨v, a, b⟩ := h1 i y q
    refine ⟨v, a, ?_⟩
    obtain ⟨ow, dd⟩ := y
    cases ow with
    | f => exact Fz.mono sg b
    | l =>
      obtain ⟨a, xs, ds, h1, h2, h3, h4, h5⟩ := b
      exact ⟨a, xs, ds, h1, h2, s _ _ h3, h4.mono sg, h5⟩
    | o =>
      obtain ⟨a, xs, ds, h1, h2, h3, h4, h5⟩ := b
      exact ⟨a, xs, ds, h1, h2, s _ _ h3, h4.mono sg, h5⟩
    | b =>
      obtain ⟨a, b, xs, ys, ds, es, h1, h2, h3, h4, h5, h6, h7⟩ := b
      exact ⟨a, b, xs, ys, ds, es, h1, h2, s _ _ h3, s _ _ h4, h5.mono sg, h6.mono sg, h7⟩
/-! ### what is owned is frozen -/
open Classical in
/-- G and what H has at T -/
noncomputable def frz (H G : Hp) (T : Addr → Prop) : Hp := fun a => if T a then H a else G a
theorem frz_in {a : Addr} (h : T a) : frz H G T a = H a := if_pos h
theorem frz_out {a : Addr} (h : ¬ T a) : frz H G T a = G a := if_neg h
theorem frz_same (h : ∀ a, T a → G a = none) : Same G (frz H G T) := fun a o q => by
  rw [frz_out fun z => by rw [h a z] at q; cases q]
  exact q
theorem frz_sub (h : Same G H) : Same (frz H G T) H := fun a o q => by
  by_cases z : T a
  · rw [frz_in z] at q; exact q
  · rw [frz_out z] at q; exact h a o q
theorem frz_new {a : Addr} (h : frz H G T a ≠ none) : G a ≠ none ∨ T a := by
  by_cases z : T a
  · exact .inr z
  · rw [frz_out z] at h; exact .inl h
theorem frz_dis (hg : ∀ a, F a → G a = none) (d : ∀ a, F a → ¬ T a) : ∀ a, F a → frz H G T a = none := fun a h => by
  rw [frz_out (d a h)]
  exact hg a h
theorem Rv.frozen {ow : Ow} {v : V} {d : PyData} (r : Rv K H G ow v d T) (s : Same G G') (h : ∀ a, T a → G' a = H a) : Fz K G' v d := by
  cases ow with
  | f => exact Fz.mono s r
  | l => exact r.elim
  | o =>
    obtain ⟨a, xs, ds, rfl, rfl, h3, h4, h5⟩ := r
    exact Fz.lst' (.inl ((h a h5).trans h3)) (h4.mono s)
  | b =>
    obtain ⟨a, b, xs, ys, ds, es, rfl, rfl, h3, h4, h5, h6, h7, h8, _⟩ := r
    exact Fz.lst' (.inl ((h a h7).trans h3)) (.cons (Fz.lst' (.inl ((h b h8).trans h4)) (h6.mono s)) (h5.mono s))
theorem Stp.frz {T' : Addr → Prop} (s : Stp H G F H' G' F' T) (h : ∀ a, T' a → T a) : Stp H G F H' (frz H' G' T') F' (fun a => T a ∧ ¬ T' a) where
  sg := s.sg.trans (frz_same fun a z => s.tg a (h a z))
  fr := s.fr
  gd := fun a q => (frz_new q).elim (s.gd a) fun z => .inr (s.fd a (.inr (h a z)))
  fd := fun a q => s.fd a (q.imp_right And.left)
  dj := fun a q z => s.dj a q z.1
  tg := fun a z => by rw [frz_out z.2]; exact s.tg a z.1
  tl := fun a z => s.tl a z.1
end
end Ev
end

section
set_option Elab.async false
set_option linter.all false
set_option maxRecDepth 100000
/-! Readings of the combinators. -/
namespace Ev
open PySem PySem.Spec PyProof.Rows L2

/-- how an exception stands: its class's name, its field's datum -/
abbrev EKT := Hp → Hp → Str → PyData → Value → Option Addr → Prop
section
variable {K : PySem.W.Frag} {EK : EKT} {W : WX} {cl : Cl} {G G' H H' : Hp} {P P' : Nat → Addr → Prop} {F F' T T' : Addr → Prop} {e e' : En} {σ : L2.St}
/-- what is wanted where an exception comes -/
def WEx (K : PySem.W.Frag) (EK : EKT) (W : WX) (P : Nat → Addr → Prop) (H G : Hp) (F : Addr → Prop) (σ : L2.St) (n : Str) (d : PyData) (e' : En) : Prop :=
  ∀ H' G' F' cls od, Env1 K P H' G' F' e' σ → Stp H G F H' G' F' NoA → EK H' G' n d cls od → W cls od σ H'
theorem WEx.back {H1 G1 : Hp} {F1 T1 : Addr → Prop} {n : Str} {d : PyData} (w : WEx K EK W P H G F σ n d e') (s : Stp H G F H1 G1 F1 T1) : WEx K EK W P H1 G1 F1 σ n d e' :=
  fun H' G' F' cls od x t k => w H' G' F' cls od x (s.trans0 t) k
def rdE (K : PySem.W.Frag) (EK : EKT) (W : WX) (cl : Cl) (c : CE) : TE := fun σ H Q => ∃ e G F P, Env1 K P H G F e σ ∧ match c cl e with
  | .ok p => ∀ v H' G' F' T, Env1 K P H' G' F' p.1 σ → Rv K H' G' p.2.1 v p.2.2 T → Stp H G F H' G' F' T → Q v H'
  | .ex n d e' => WEx K EK W P H G F σ n d e'
  | .no => False
def rdT (K : PySem.W.Frag) (EK : EKT) (W : WX) (cl : Cl) (c : CT) : TT := fun σ H Q => ∃ e G F P, Env1 K P H G F e σ ∧ match c cl e with
  | .ok p => ∀ H' G' F', Env1 K P H' G' F' p.1 σ → Stp H G F H' G' F' NoA → Q p.2 H'
  | .ex n d e' => WEx K EK W P H G F σ n d e'
  | .no => False
/-- an argument's -/
def rd1 (K : PySem.W.Frag) (EK : EKT) (W : WX) (cl : Cl) : Ar → TE
  | .v c => rdE K EK W cl c
  | .n i => tVar i
inductive ArsR (K : PySem.W.Frag) (H G : Hp) (F : Addr → Prop) (σ : L2.St) : List Ar → List (Option Vl) → List V → (Addr → Prop) → Prop
  | nil : ArsR K H G F σ [] [] [] NoA
  | v {c as x xs v vs T1 T2} : Rv K H G x.1 v x.2 T1 → ArsR K H G F σ as xs vs T2 → (∀ a, T1 a → ¬ T2 a) → ArsR K H G F σ (.v c :: as) (some x :: xs) (v :: vs) (fun a => T1 a ∨ T2 a)
  | n {i as xs v vs T} : σ[i]? = some (some v) → ArsR K H G F σ as xs vs T → ArsR K H G F σ (.n i :: as) (none :: xs) (v :: vs) T
def rdAs (K : PySem.W.Frag) (EK : EKT) (W : WX) (cl : Cl) (as : List Ar) : TA := fun σ H Q => ∃ e G F P, Env1 K P H G F e σ ∧ match arRun as cl e with
  | .ok p => ∀ vs H' G' F' T, Env1 K P H' G' F' p.1 σ → ArsR K H' G' F' σ as p.2 vs T → Stp H G F H' G' F' T → Q vs H'
  | .ex n d e' => WEx K EK W P H G F σ n d e'
  | .no => False
/-- values -/
inductive EsR (K : PySem.W.Frag) (H G : Hp) (F : Addr → Prop) : List Vl → List V → (Addr → Prop) → Prop
  | nil : EsR K H G F [] [] NoA
  | cons {x xs v vs T1 T2} : Rv K H G x.1 v x.2 T1 → EsR K H G F xs vs T2 → (∀ a, T1 a → ¬ T2 a) → EsR K H G F (x :: xs) (v :: vs) (fun a => T1 a ∨ T2 a)
def rdEs (K : PySem.W.Frag) (EK : EKT) (W : WX) (cl : Cl) (cs : List CE) : TA := fun σ H Q => ∃ e G F P, Env1 K P H G F e σ ∧ match esRun cs cl e with
  | .ok p => ∀ vs H' G' F' T, Env1 K P H' G' F' p.1 σ → EsR K H' G' F' p.2 vs T → Stp H G F H' G' F' T → Q vs H'
  | .ex n d e' => WEx K EK W P H G F σ n d e'
  | .no => False
theorem rdE.imp {c : CE} {Q Q' : VK} (h : rdE K EK W cl c σ H Q) (q : ∀ v H, Q v H → Q' v H) : rdE K EK W cl c σ H Q' := by
  obtain ⟨e, G, F, P, x, h⟩ := h
  refine ⟨e, G, F, P, x, ?_⟩
  cases r : c cl e with
  | ok p =>
    rw [r] at h
    exact fun v H' G' F' T a b s => q _ _ (h v H' G' F' T a b s)
  | ex n d e' =>
    rw [r] at h
    exact h
  | no =>
    rw [r] at h
    exact h
theorem rd1.imp {a : Ar} {Q Q' : VK} (h : rd1 K EK W cl a σ H Q) (q : ∀ v H, Q v H → Q' v H) : rd1 K EK W cl a σ H Q' := by
  cases a with
  | v c => exact rdE.imp h q
  | n i =>
    obtain ⟨v, a, b⟩ := h
    exact ⟨v, a, q _ _ b⟩
theorem R.bind_ok {α β : Type} {r : R α} {a : α} {k : α → R β} (h : r = .ok a) : r.bind k = k a := by rw [h]; rfl
theorem R.bind_ex {α β : Type} {r : R α} {n : Str} {d : PyData} {e : En} {k : α → R β} (h : r = .ex n d e) : r.bind k = .ex n d e := by rw [h]; rfl
theorem R.bind_no {α β : Type} {r : R α} {k : α → R β} (h : r = .no) : r.bind k = .no := by rw [h]; rfl
theorem ArsR.step {H1 H2 G1 G2 : Hp} {F1 F2 T2 : Addr → Prop} {as : List Ar} {xs : List (Option Vl)} {vs : List V} (r : ArsR K H1 G1 F1 σ as xs vs T) (h1 : ∀ a, T a → ¬ F1 a) (t : Stp H1 G1 F1 H2 G2 F2 T2) : ArsR K H2 G2 F2 σ as xs vs T := by
  induction r with
  | nil => exact .nil
  | v a b c ih => exact .v (a.step (fun z q => h1 z (.inl q)) t) (ih fun z q => h1 z (.inr q)) c
  | n a b ih => exact .n a (ih h1)
/-- an argument list, one by one -/
theorem rdAs_cons {a : Ar} {as : List Ar} {Q : List V → Hp → Prop} (h : rdAs K EK W cl (a :: as) σ H Q) : rd1 K EK W cl a σ H fun v H1 => rdAs K EK W cl as σ H1 fun vs H2 => Q (v :: vs) H2 := by
  obtain ⟨e, G, F, P, x, h⟩ := h
  cases a with
  | v c =>
    refine ⟨e, G, F, P, x, ?_⟩
    have h0 : (match (c cl e).bind fun p => (arRun as cl p.1).bind fun q => .ok (q.1, some p.2 :: q.2) with
      | .ok p => ∀ vs H' G' F' T, Env1 K P H' G' F' p.1 σ → ArsR K H' G' F' σ (.v c :: as) p.2 vs T → Stp H G F H' G' F' T → Q vs H'
      | .ex n d e' => WEx K EK W P H G F σ n d e'
      | .no => False : Prop) := h
    cases r : c cl e with
    | ok p =>
      rw [R.bind_ok r] at h0
      intro v H1 G1 F1 T1 x1 ro s1
      refine ⟨p.1, G1, F1, P, x1, ?_⟩
      cases r2 : arRun as cl p.1 with
      | ok q =>
        rw [R.bind_ok r2] at h0
        intro vs H2 G2 F2 T2 x2 rs s2
        exact h0 (v :: vs) H2 G2 F2 _ x2 (.v (ro.step (fun a z f => s1.dj a f z) s2) rs (s1.apart s2)) (s1.trans s2)
      | ex n d e' =>
        rw [R.bind_ex r2] at h0
        exact WEx.back h0 s1
      | no =>
        rw [R.bind_no r2] at h0
        exact h0
    | ex n d e' =>
      rw [R.bind_ex r] at h0
      exact h0
    | no =>
      rw [R.bind_no r] at h0
      exact h0
  | n i =>
    have h0 : (match (match gt e i with
      | some _ => (arRun as cl e).bind fun q => .ok (q.1, none :: q.2)
      | none => .no) with
      | .ok p => ∀ vs H' G' F' T, Env1 K P H' G' F' p.1 σ → ArsR K H' G' F' σ (.n i :: as) p.2 vs T → Stp H G F H' G' F' T → Q vs H'
      | .ex n d e' => WEx K EK W P H G F σ n d e'
      | .no => False : Prop) := h
    cases g : gt e i with
    | none =>
      rw [g] at h0
      exact h0.elim
    | some y =>
      rw [g] at h0
      obtain ⟨fp, h1, _, _⟩ := x.fp
      obtain ⟨v, hv, _⟩ := h1 i y g
      refine ⟨v, hv, e, G, F, P, x, ?_⟩
      cases r2 : arRun as cl e with
      | ok q =>
        have h1 := h0
        simp only [r2, R.bind] at h1
        intro vs H2 G2 F2 T2 x2 rs s2
        exact h1 (v :: vs) H2 G2 F2 _ x2 (.n hv rs) s2
      | ex n d e' =>
        have h1 := h0
        simp only [r2, R.bind] at h1
        exact h1
      | no =>
        have h1 := h0
        simp only [r2, R.bind] at h1
theorem rdAs_nil {Q : List V → Hp → Prop} (h : rdAs K EK W cl [] σ H Q) : Q [] H := by
  obtain ⟨e, G, F, P, x, h⟩ := h
  exact h [] H G F NoA x .nil .refl
theorem rdEs_cons {c : CE} {cs : List CE} {Q : List V → Hp → Prop} (h : rdEs K EK W cl (c :: cs) σ H Q) : rdE K EK W cl c σ H fun v H1 => rdEs K EK W cl cs σ H1 fun vs H2 => Q (v :: vs) H2 := by
  obtain ⟨e, G, F, P, x, h⟩ := h
  refine ⟨e, G, F, P, x, ?_⟩
  have h0 : (match (c cl e).bind fun p => (esRun cs cl p.1).bind fun q => .ok (q.1, p.2 :: q.2) with
    | .ok p => ∀ vs H' G' F' T, Env1 K P H' G' F' p.1 σ → EsR K H' G' F' p.2 vs T → Stp H G F H' G' F' T → Q vs H'
    | .ex n d e' => WEx K EK W P H G F σ n d e'
    | .no => False : Prop) := h
  cases r : c cl e with
  | ok p =>
    rw [R.bind_ok r] at h0
    intro v H1 G1 F1 T1 x1 ro s1
    refine ⟨p.1, G1, F1, P, x1, ?_⟩
    cases r2 : esRun cs cl p.1 with
    | ok q =>
      rw [R.bind_ok r2] at h0
      intro vs H2 G2 F2 T2 x2 rs s2
      exact h0 (v :: vs) H2 G2 F2 _ x2 (.cons (ro.step (fun a z f => s1.dj a f z) s2) rs (s1.apart s2)) (s1.trans s2)
    | ex n d e' =>
      rw [R.bind_ex r2] at h0
      exact WEx.back h0 s1
    | no =>
      rw [R.bind_no r2] at h0
      exact h0
  | ex n d e' =>
    rw [R.bind_ex r] at h0
    exact h0
  | no =>
    rw [R.bind_no r] at h0
    exact h0
theorem rdEs_nil {Q : List V → Hp → Prop} (h : rdEs K EK W cl [] σ H Q) : Q [] H := by
  obtain ⟨e, G, F, P, x, h⟩ := h
  exact h [] H G F NoA x .nil .refl
theorem rdAs.imp : ∀ {as : List Ar} {Q Q' : List V → Hp → Prop}, rdAs K EK W cl as σ H Q → (∀ vs H, Q vs H → Q' vs H) → rdAs K EK W cl as σ H Q' := fun {as Q Q'} h q => by
  obtain ⟨e, G, F, P, x, h⟩ := h
  refine ⟨e, G, F, P, x, ?_⟩
  cases r : arRun as cl e with
  | ok p =>
    rw [r] at h
    exact fun v H' G' F' T a b s => q _ _ (h v H' G' F' T a b s)
  | ex n d e' =>
    rw [r] at h
    exact h
  | no =>
    rw [r] at h
    exact h
theorem rdAs_1 {a : Ar} {Q : V → Hp → Prop} (h : rdAs K EK W cl [a] σ H fun vs H' => ∀ v, vs = [v] → Q v H') : rd1 K EK W cl a σ H Q :=
  rd1.imp (rdAs_cons h) fun v H1 q => rdAs_nil q v rfl
theorem rdAs_2 {a b : Ar} {Q : V → V → Hp → Prop} (h : rdAs K EK W cl [a, b] σ H fun vs H' => ∀ v u, vs = [v, u] → Q v u H') : rd1 K EK W cl a σ H fun v H1 => rd1 K EK W cl b σ H1 fun u H2 => Q v u H2 :=
  rd1.imp (rdAs_cons h) fun v H1 q => rd1.imp (rdAs_cons q) fun u H2 q => rdAs_nil q v u rfl
theorem rdAs_3 {a b c : Ar} {Q : V → V → V → Hp → Prop} (h : rdAs K EK W cl [a, b, c] σ H fun vs H' => ∀ v u w, vs = [v, u, w] → Q v u w H') :
    rd1 K EK W cl a σ H fun v H1 => rd1 K EK W cl b σ H1 fun u H2 => rd1 K EK W cl c σ H2 fun w H3 => Q v u w H3 :=
  rd1.imp (rdAs_cons h) fun v H1 q => rd1.imp (rdAs_cons q) fun u H2 q => rd1.imp (rdAs_cons q) fun w H3 q => rdAs_nil q v u w rfl

/-! ### operations -/
/-- a value that is looked at: frozen, or a list that is owned, its items frozen -/
def Rt (K : PySem.W.Frag) (H G : Hp) (v : V) (d : PyData) : Prop := Fz K G v d ∨ ∃ a xs ds, v = .ref a ∧ d = .list ds ∧ H a = some (.lst xs) ∧ FzA K G xs ds
inductive RtA (K : PySem.W.Frag) (H G : Hp) : List V → List PyData → Prop
  | nil : RtA K H G [] []
  | cons {v d vs ds} : Rt K H G v d → RtA K H G vs ds → RtA K H G (v :: vs) (d :: ds)
theorem Rt.more {v : V} {d : PyData} (r : Rt K H G v d) (s : Same G G') : Rt K H G' v d := by
  rcases r with r | ⟨a, xs, ds, h1, h2, h3, h4⟩
  · exact .inl (r.mono s)
  · exact .inr ⟨a, xs, ds, h1, h2, h3, h4.mono s⟩
theorem RtA.more {vs : List V} {ds : List PyData} (r : RtA K H G vs ds) (s : Same G G') : RtA K H G' vs ds := by
  induction r with
  | nil => exact .nil
  | cons a b ih => exact .cons (a.more s) ih
/-- what a made value may be: all that stood stands, what is new is shared or the value's own -/
def Fin (K : PySem.W.Frag) (H G : Hp) (x : Vl) (Q : VK) : Prop := ∀ v H' G' T, Same H H' → Same G G' → Same G' H' → (∀ a, G' a ≠ none → G a ≠ none ∨ H a = none) →
  (∀ a, T a → H a = none ∧ H' a ≠ none ∧ G' a = none) → Rv K H' G' x.1 v x.2 T → Q v H'
def OpS (K : PySem.W.Frag) (r : List V → Hp → VK → Prop) (f : OpF) : Prop := ∀ vs H G ds x Q, Same G H → RtA K H G vs ds → f ds = some x → Fin K H G x Q → r vs H Q
/-- the operands, as they stand behind all: temporaries frozen -/
theorem ars_rt {as : List Ar} {xs : List (Option Vl)} {vs : List V} {ds : List PyData} (x : Env1 K P H G F e σ) (r : ArsR K H G F σ as xs vs T) (hd : arDat as e xs = some ds) : ∀ G', Same G G' → (∀ a, T a → G' a = H a) → RtA K H G' vs ds := by
  induction r generalizing ds with
  | nil =>
    intro G' _ _
    cases hd
    exact .nil
  | @v c as y xs v vs T1 T2 ro rs dj ih =>
    intro G' s h
    have hd' : (arDat as e xs).map (y.2 :: ·) = some ds := hd
    cases q : arDat as e xs with
    | none => rw [q] at hd'; cases hd'
    | some es =>
      rw [q] at hd'
      cases hd'
      exact .cons (.inl (ro.frozen s (fun a z => h a (.inl z)))) (ih q G' s fun a z => h a (.inr z))
  | @n i as xs v vs T hv rs ih =>
    intro G' s h
    obtain ⟨fp, h1, _, _⟩ := x.fp
    have hd' : (match gt e i with
      | some (.f, d) => (arDat as e xs).map (d :: ·)
      | some (.o, d) => (arDat as e xs).map (d :: ·)
      | some (.l, d) => (arDat as e xs).map (d :: ·)
      | _ => none) = some ds := hd
    cases g : gt e i with
    | none => rw [g] at hd'; cases hd'
    | some y =>
      obtain ⟨v', hv', ro⟩ := h1 i y g
      rw [hv] at hv'
      cases hv'
      obtain ⟨ow, d⟩ := y
      rw [g] at hd'
      cases q : arDat as e xs with
      | none => rw [q] at hd'; cases ow <;> cases hd'
      | some es =>
        rw [q] at hd'
        have tail := ih q G' s h
        cases ow with
        | f =>
          cases hd'
          exact .cons (.inl (Fz.mono s ro)) tail
        | o =>
          cases hd'
          obtain ⟨a, zs, ds', h1, h2, h3, h4, h5⟩ := ro
          exact .cons (.inr ⟨a, zs, ds', h1, h2, h3, h4.mono s⟩) tail
        | l =>
          cases hd'
          obtain ⟨a, zs, ds', h1, h2, h3, h4, h5⟩ := ro
          exact .cons (.inr ⟨a, zs, ds', h1, h2, h3, h4.mono s⟩) tail
        | b => cases hd'
/-- all that is new of a step is frozen -/
theorem frozen_all {H0 G0 : Hp} {F0 : Addr → Prop} (x0 : Env1 K P H0 G0 F0 e' σ) (x1 : Env1 K P H G F e σ) (s : Stp H0 G0 F0 H G F T) :
    Env1 K P H (frz H G T) F e σ ∧ Stp H0 G0 F0 H (frz H G T) F NoA ∧ Same G (frz H G T) ∧ ∀ a, T a → frz H G T a = H a :=
  ⟨x1.more (frz_same s.tg) (frz_sub x1.sub) (frz_dis x1.dis s.dj) (frz_dis (fun a z => (x1.pv a z).2.2) fun a z w => by
      rcases s.fd a (.inr w) with q | q
      · exact (x0.pv a z).1 q
      · exact (x0.pv a z).2.1 q), (s.frz (T' := T) fun _ h => h).sub fun _ h => h.elim, frz_same s.tg, fun a h => frz_in h⟩
/-- arguments, by their data as they stand behind all -/
theorem rd_dat {as : List Ar} {Q : List V → Hp → Prop} (x : Env1 K P H G F e σ) (h : match arRun as cl e with
    | .ok p => (match arDat as p.1 p.2 with
      | some ds => ∀ vs H' G' F', Env1 K P H' G' F' p.1 σ → RtA K H' G' vs ds → Stp H G F H' G' F' NoA → Q vs H'
      | none => False)
    | .ex n d e' => WEx K EK W P H G F σ n d e'
    | .no => False) : rdAs K EK W cl as σ H Q := by
  refine ⟨e, G, F, P, x, ?_⟩
  cases q : arRun as cl e with
  | ok p =>
    rw [q] at h
    intro vs H1 G1 F1 T1 x1 rs s1
    cases qd : arDat as p.1 p.2 with
    | none => simp only [qd] at h
    | some ds =>
      simp only [qd] at h
      obtain ⟨x2, z, sg, hT⟩ := frozen_all x x1 s1
      exact h vs H1 _ F1 x2 (ars_rt x1 rs qd _ sg hT) z
  | ex n d e' => rw [q] at h; exact h
  | no => rw [q] at h; exact h
/-- what an operation gives, the slots as they were -/
theorem Fin.of {x : Vl} {Q : VK} {H0 G0 : Hp} {F0 : Addr → Prop} (en : Env1 K P H G F e σ) (s : Stp H0 G0 F0 H G F NoA) (h : ∀ v H' G' F' T, Env1 K P H' G' F' e σ → Rv K H' G' x.1 v x.2 T → Stp H0 G0 F0 H' G' F' T → Q v H') : Fin K H G x Q := by
  intro v H' G' T sh sg sub gd tl ro
  have dF : ∀ a, F a → G' a = none := fun a z => by
    cases q : G' a with
    | none => rfl
    | some o =>
      rcases gd a (by rw [q]; simp) with w | w
      · exact absurd (en.dis a z) w
      · exact absurd w (en.lv a z)
  have st : Stp H G F H' G' F T := ⟨sg, fun a o _ q => sh a o q, fun a q => (gd a q).imp_right .inr, fun a q => q.elim .inl fun z => .inr (tl a z).1, fun a z q => en.lv a z (tl a q).1, fun a q => (tl a q).2.2, fun a q => (tl a q).2.1⟩
  exact h v H' G' F T (en.grow sh sg sub dF fun a z => (st.pv en.pv a z).2.2) ro (s.trans0 st)
/-- an operation's reading -/
theorem rd_op {r : List V → Hp → VK → Prop} {f : OpF} {as : List Ar} {Q : VK} (hr : OpS K r f) (h : rdE K EK W cl (cOp f as) σ H Q) : rdAs K EK W cl as σ H fun vs H' => r vs H' Q := by
  obtain ⟨e, G, F, P, x, h⟩ := h
  refine rd_dat x ?_
  cases q : arRun as cl e with
  | ok p =>
    simp only [cOp, q, R.bind] at h
    cases qd : arDat as p.1 p.2 with
    | none => simp only [qd, opRes] at h
    | some ds =>
      cases qf : f ds with
      | none => simp only [qd, opRes, qf] at h
      | some y =>
        simp only [qd, opRes, qf] at h
        simp only [qd]
        exact fun vs H1 G1 F1 x1 rt s1 => hr vs H1 _ ds y Q x1.sub rt qf (Fin.of x1 s1 h)
  | ex n d e' =>
    simp only [cOp, q, R.bind] at h
    exact h
  | no =>
    simp only [cOp, q, R.bind] at h
end
end Ev
end

section
set_option Elab.async false
set_option linter.all false
set_option maxRecDepth 100000
set_option maxHeartbeats 1000000
/-! Expressions: from the combinators to HandS's rules. -/
namespace Ev
open PySem PySem.Spec PyProof.Rows L2

theorem gt_lt : ∀ {e : En} {i : Nat} {x : Vl}, gt e i = some x → i < e.length
  | [], _, _, h => by cases h
  | _ :: _, 0, _, _ => by simp
  | _ :: r, n + 1, x, h => by
    have := gt_lt (e := r) (i := n) (x := x) h
    simp
    omega
theorem st_len : ∀ (e : En) (i : Nat) (x : Option Vl), (st e i x).length = e.length
  | [], _, _ => rfl
  | _ :: _, 0, _ => rfl
  | _ :: r, n + 1, x => by
    show (st r n x).length + 1 = r.length + 1
    rw [st_len r n x]
theorem gt_st : ∀ (e : En) (i j : Nat) (x : Option Vl), gt (st e i x) j = if i = j ∧ i < e.length then x else gt e j
  | [], i, j, x => by simp [gt, st]
  | v :: r, 0, 0, x => by simp [gt, st]
  | v :: r, 0, j + 1, x => by simp [gt, st]
  | v :: r, i + 1, 0, x => by simp [gt, st]
  | v :: r, i + 1, j + 1, x => by
    show gt (st r i x) j = _
    rw [gt_st r i j x]
    simp [gt]
theorem gt_st_same {e : En} {i : Nat} {x : Option Vl} (h : i < e.length) : gt (st e i x) i = x := by rw [gt_st, if_pos ⟨rfl, h⟩]
theorem gt_st_ne {e : En} {i j : Nat} {x : Option Vl} (h : i ≠ j) : gt (st e i x) j = gt e j := by rw [gt_st, if_neg fun z => h z.1]

theorem PE.imp {X : Cx} {e : Expr} {t t' : TE} (h : PE X e t) (q : ∀ σ H Q, t' σ H Q → t σ H Q) : PE X e t' := ⟨fun pins s σ H Q I w => h.run pins s σ H Q I (q _ _ _ w)⟩
theorem PT.imp {X : Cx} {e : Expr} {t t' : TT} (h : PT X e t) (q : ∀ σ H Q, t' σ H Q → t σ H Q) : PT X e t' := ⟨fun pins s σ H Q I w => h.run pins s σ H Q I (q _ _ _ w)⟩
theorem PW.imp {X : Cx} {e : Expr} {t t' : TT} (h : PW X e t) (q : ∀ σ H Q, t' σ H Q → t σ H Q) : PW X e t' := ⟨fun wh pins s σ H Q I w => h.run wh pins s σ H Q I (q _ _ _ w)⟩
theorem PA.imp {X : Cx} {es : List Expr} {t t' : TA} (h : PA X es t) (q : ∀ σ H Q, t' σ H Q → t σ H Q) : PA X es t' := ⟨fun pos pins s σ H Q I w => h.run pos pins s σ H Q I (q _ _ _ w)⟩
theorem PE.or {X : Cx} {e : Expr} {t t' : TE} (h : PE X e t) (h' : PE X e t') : PE X e (fun σ H Q => t σ H Q ∨ t' σ H Q) := ⟨fun pins s σ H Q I w => w.elim (h.run pins s σ H Q I) (h'.run pins s σ H Q I)⟩

section
variable {K : PySem.W.Frag} {EK : EKT} {W : WX} {cl : Cl} {G G' H H' : Hp} {P P' : Nat → Addr → Prop} {F F' T T' : Addr → Prop} {e e' : En} {σ : L2.St}
/-! ### slots change -/
/-- what slot i owns is frozen -/
theorem Env1.froz {i : Nat} {x : Vl} (en : Env1 K P H G F e σ) (h : gt e i = some x) (hl : x.1 ≠ .l) :
    ∃ v G' F', σ[i]? = some (some v) ∧ Env1 K P H G' F' (st e i (some (.f, x.2))) σ ∧ Fz K G' v x.2 ∧ Stp H G F H G' F' NoA := by
  obtain ⟨fp, h1, h2, h3⟩ := en.fp
  obtain ⟨v, hv, ro⟩ := h1 i x h
  have hi := gt_lt h
  have rv : Rv K H G x.1 v x.2 (fp i) := by
    obtain ⟨ow, d⟩ := x
    cases ow with
    | l => exact absurd rfl hl
    | f => exact ro
    | o => exact ro
    | b => exact ro
  have dT : ∀ a, fp i a → G a = none := fun a z => en.dis a (h2 i a z)
  have sG : Same G (frz H G (fp i)) := frz_same dT
  have fzv : Fz K (frz H G (fp i)) v x.2 := rv.frozen sG fun a z => frz_in z
  refine ⟨v, frz H G (fp i), fun a => F a ∧ ¬ fp i a, hv, ⟨fun a z => ⟨fun w => (en.pv a z).1 w.1, (en.pv a z).2.1, by rw [frz_out fun w => (en.pv a z).1 (h2 i a w)]; exact (en.pv a z).2.2⟩, frz_sub en.sub, fun a z => ?_, fun a z => en.lv a z.1, by rw [st_len]; exact en.len, ⟨fun j a => fp j a ∧ j ≠ i, fun j y hy => ?_, fun j a z => ⟨h2 j a z.1, fun w => z.2 (h3 j i a z.1 w)⟩, fun j k a z w => h3 j k a z.1 w.1⟩⟩, fzv, ?_⟩
  · rw [frz_out z.2]
    exact en.dis a z.1
  · by_cases hj : i = j
    · subst hj
      rw [gt_st_same hi] at hy
      cases hy
      exact ⟨v, hv, fzv⟩
    · rw [gt_st_ne hj] at hy
      obtain ⟨u, hu, r⟩ := h1 j y hy
      refine ⟨u, hu, ?_⟩
      have r2 : Ro K H (frz H G (fp i)) (P j) y.1 u y.2 (fp j) := r.more sG
      obtain ⟨ow, d⟩ := y
      cases ow with
      | f => exact r2
      | l =>
        obtain ⟨a, xs, ds, q1, q2, q3, q4, q5⟩ := r2
        exact ⟨a, xs, ds, q1, q2, q3, q4, q5⟩
      | o =>
        obtain ⟨a, xs, ds, q1, q2, q3, q4, q5⟩ := r2
        exact ⟨a, xs, ds, q1, q2, q3, q4, q5, fun z => hj z.symm⟩
      | b =>
        obtain ⟨a, b, xs, ys, ds, es, q1, q2, q3, q4, q5, q6, q7, q8, q9⟩ := r2
        exact ⟨a, b, xs, ys, ds, es, q1, q2, q3, q4, q5, q6, ⟨q7, fun z => hj z.symm⟩, ⟨q8, fun z => hj z.symm⟩, q9⟩
  · exact ⟨sG, fun a o _ q => q, fun a q => (frz_new q).elim .inl fun z => .inr (.inl (h2 i a z)), fun a q => q.elim (fun z => .inl z.1) False.elim, fun a _ z => z, fun a z => z.elim, fun a z => z.elim⟩
/-! ### constants, names -/
theorem te_K {d : PyData} {v : V} {Q : VK} (hv : ∀ G, Fz K G v d) (h : rdE K EK W cl (cK d) σ H Q) : tC v σ H Q := by
  obtain ⟨e, G, F, P, x, h⟩ := h
  exact h v H G F NoA x (hv G) .refl
theorem te_var {i : Nat} {Q : VK} (h : rdE K EK W cl (cVar i) σ H Q) : tVar i σ H Q := by
  obtain ⟨e, G, F, P, x, h⟩ := h
  have h0 : (match (match gt e i with
    | some (.f, d) => R.ok (e, Ow.f, d)
    | some (.o, d) => R.ok (st e i (some (.f, d)), Ow.f, d)
    | some (.b, d) => R.ok (st e i (some (.f, d)), Ow.f, d)
    | _ => R.no : R (En × Vl)) with
    | .ok p => ∀ v H' G' F' T, Env1 K P H' G' F' p.1 σ → Rv K H' G' p.2.1 v p.2.2 T → Stp H G F H' G' F' T → Q v H'
    | .ex n d e' => WEx K EK W P H G F σ n d e'
    | .no => False : Prop) := h
  cases g : gt e i with
  | none => rw [g] at h0; exact h0.elim
  | some y =>
    obtain ⟨ow, d⟩ := y
    rw [g] at h0
    cases ow with
    | f =>
      obtain ⟨fp, h1, _, _⟩ := x.fp
      obtain ⟨v, hv, ro⟩ := h1 i _ g
      exact ⟨v, hv, h0 v H G F NoA x ro .refl⟩
    | l => exact h0.elim
    | o =>
      obtain ⟨v, G', F', hv, x', fz, s⟩ := x.froz g (by simp)
      exact ⟨v, hv, h0 v H G' F' NoA x' fz s⟩
    | b =>
      obtain ⟨v, G', F', hv, x', fz, s⟩ := x.froz g (by simp)
      exact ⟨v, hv, h0 v H G' F' NoA x' fz s⟩
/-! ### operations -/
def lift1 (r : V → Hp → VK → Prop) : List V → Hp → VK → Prop := fun vs H Q => ∃ x, vs = [x] ∧ r x H Q
def lift2 (r : R2) : List V → Hp → VK → Prop := fun vs H Q => ∃ x y, vs = [x, y] ∧ r x y H Q
def lift3 (r : V → V → V → Hp → VK → Prop) : List V → Hp → VK → Prop := fun vs H Q => ∃ x y z, vs = [x, y, z] ∧ r x y z H Q
theorem te_op1 {r : V → Hp → VK → Prop} {f : OpF} {a : Ar} {Q : VK} (hr : OpS K (lift1 r) f) (h : rdE K EK W cl (cOp f [a]) σ H Q) : tUn r (rd1 K EK W cl a) σ H Q :=
  rdAs_1 (rdAs.imp (rd_op hr h) fun vs H' ⟨x, e, q⟩ v ev => by rw [e] at ev; cases ev; exact q)
theorem te_op2 {r : R2} {f : OpF} {a b : Ar} {Q : VK} (hr : OpS K (lift2 r) f) (h : rdE K EK W cl (cOp f [a, b]) σ H Q) : tOp r (rd1 K EK W cl a) (rd1 K EK W cl b) σ H Q :=
  rdAs_2 (rdAs.imp (rd_op hr h) fun vs H' ⟨x, y, e, q⟩ v u ev => by rw [e] at ev; cases ev; exact q)
theorem te_op3 {r : V → V → V → Hp → VK → Prop} {f : OpF} {a b c : Ar} {Q : VK} (hr : OpS K (lift3 r) f) (h : rdE K EK W cl (cOp f [a, b, c]) σ H Q) :
    rd1 K EK W cl a σ H fun x H1 => rd1 K EK W cl b σ H1 fun y H2 => rd1 K EK W cl c σ H2 fun z H3 => r x y z H3 Q :=
  rdAs_3 (rdAs.imp (rd_op hr h) fun vs H' ⟨x, y, z, e, q⟩ v u w ev => by rw [e] at ev; cases ev; exact q)
/-! ### what a made value is -/
theorem Fin.f {v : V} {d : PyData} {Q : VK} (h : Fin K H G (.f, d) Q) (s : Same G H) (r : Fz K G v d) : Q v H := h v H G NoA (Same.refl _) (Same.refl _) s (fun _ q => .inl q) (fun _ q => q.elim) r
theorem Fin.fg {v : V} {d : PyData} {Q : VK} (h : Fin K H G (.f, d) Q) (s : Same G H) (r : ∀ G, Fz K G v d) : Q v H := h.f s (r G)
theorem Fin.tup {xs : List V} {ds : List PyData} {Q : VK} (h : Fin K H G (.f, .tuple ds) Q) (s : Same G H) (r : FzA K G xs ds) : TupQ H xs Q := fun p o hp hd => by
  have gp : G p = none := s.free hp
  have sH : Same H (upd H p (.frz o (.tup xs))) := fun b u q => by rw [upd_ne (ne_of_none q hp)]; exact q
  have sG : Same G (upd G p (.frz o (.tup xs))) := fun b u q => by rw [upd_ne (ne_of_none q gp)]; exact q
  refine h (.ref p) _ (upd G p (.frz o (.tup xs))) NoA sH sG (fun b u q => ?_) (fun a q => ?_) (fun _ q => q.elim) (Fz.tup' (.inl ⟨o, upd_same, hd⟩) (r.mono sG))
  · by_cases e : b = p
    · subst e; rw [upd_same] at q ⊢; exact q
    · rw [upd_ne e] at q ⊢; exact s b u q
  · by_cases e : a = p
    · exact .inr (e ▸ hp)
    · rw [upd_ne e] at q; exact .inl q
theorem Fin.lst {xs : List V} {ds : List PyData} {Q : VK} (h : Fin K H G (.o, .list ds) Q) (s : Same G H) (r : FzA K G xs ds) : ∀ p, H p = none → Q (.ref p) (upd H p (.lst xs)) := fun p hp => by
  have gp : G p = none := s.free hp
  have sH : Same H (upd H p (.lst xs)) := fun b u q => by rw [upd_ne (ne_of_none q hp)]; exact q
  refine h (.ref p) _ G (fun a => a = p) sH (Same.refl _) (fun b u q => sH b u (s b u q)) (fun _ q => .inl q) (fun a q => ?_) ⟨p, xs, ds, rfl, rfl, upd_same, r, rfl⟩
  subst q
  exact ⟨hp, by rw [upd_same]; simp, gp⟩
/-- any value, looked at, as a frozen one of the whole heap -/
theorem Rt.fz {v : V} {d : PyData} (r : Rt K H G v d) (s : Same G H) : Fz K H v d := by
  rcases r with r | ⟨a, xs, ds, rfl, rfl, h3, h4⟩
  · exact r.mono s
  · exact Fz.lst' (.inl h3) (h4.mono s)
/-- a list that is looked at -/
theorem Rt.list {v : V} {ds : List PyData} (r : Rt K H G v (.list ds)) (s : Same G H) : ∃ a xs, v = .ref a ∧ Rd H a (.lst xs) ∧ FzA K G xs ds := by
  rcases r with r | ⟨a, xs, ds', rfl, e, h3, h4⟩
  · cases r with
    | lst hr hl hh => exact ⟨_, _, rfl, Rd.same s hr, ⟨hl, hh⟩⟩
  · cases e
    exact ⟨a, xs, rfl, .inl h3, h4⟩
theorem Rt.tuple {v : V} {ds : List PyData} (r : Rt K H G v (.tuple ds)) (s : Same G H) : ∃ a xs, v = .ref a ∧ SqN K H a xs ∧ FzA K G xs ds ∧ Fz K G v (.tuple ds) := by
  rcases r with r | ⟨a, xs, ds', rfl, e, h3, h4⟩
  · cases id r with
    | tup hr hl hh => exact ⟨_, _, rfl, SqN.same s hr, ⟨hl, hh⟩, r⟩
  · cases e
theorem Rt.int {v : V} {i : Int} (r : Rt K H G v (.int i)) : v = .int i := by
  rcases r with r | ⟨a, xs, ds', rfl, e, h3, h4⟩
  · cases r; rfl
  · cases e
theorem Rt.str {v : V} {x : Str} (r : Rt K H G v (.str x)) : v = .str x ∧ PyData.strOk x = true := by
  rcases r with r | ⟨a, xs, ds', rfl, e, h3, h4⟩
  · cases r with
    | str _ h => exact ⟨rfl, h⟩
  · cases e
theorem Rt.bool {v : V} {b : Bool} (r : Rt K H G v (.bool b)) : v = .bl b := by
  rcases r with r | ⟨a, xs, ds', rfl, e, h3, h4⟩
  · cases r; rfl
  · cases e
theorem Rt.none {v : V} (r : Rt K H G v .none) : v = .non := by
  rcases r with r | ⟨a, xs, ds', rfl, e, h3, h4⟩
  · cases r; rfl
  · cases e
/-- an operation of one place -/
theorem OpS.of1 {r : V → Hp → VK → Prop} {f : OpF} (h : ∀ v d x H G Q, Same G H → Rt K H G v d → f [d] = some x → Fin K H G x Q → r v H Q) (hn : ∀ ds, ds.length ≠ 1 → f ds = none := by intro ds h; cases ds with | nil => rfl | cons d ds => cases ds with | nil => exact absurd rfl h | cons d ds => rfl) : OpS K (lift1 r) f := by
  intro vs H G ds x Q s rt hf fin
  cases rt with
  | nil => rw [hn [] (by simp)] at hf; cases hf
  | cons r1 rt =>
    cases rt with
    | nil => exact ⟨_, rfl, h _ _ _ _ _ _ s r1 hf fin⟩
    | cons r2 rt => rw [hn _ (by simp)] at hf; cases hf
theorem OpS.of2 {r : R2} {f : OpF} (h : ∀ v u d d' x H G Q, Same G H → Rt K H G v d → Rt K H G u d' → f [d, d'] = some x → Fin K H G x Q → r v u H Q) (hn : ∀ ds, ds.length ≠ 2 → f ds = none := by intro ds h; rcases ds with _ | ⟨d, _ | ⟨d', _ | ⟨d'', ds⟩⟩⟩ <;> first | rfl | exact absurd rfl h) : OpS K (lift2 r) f := by
  intro vs H G ds x Q s rt hf fin
  cases rt with
  | nil => rw [hn [] (by simp)] at hf; cases hf
  | cons r1 rt =>
    cases rt with
    | nil => rw [hn _ (by simp)] at hf; cases hf
    | cons r2 rt =>
      cases rt with
      | nil => exact ⟨_, _, rfl, h _ _ _ _ _ _ _ _ s r1 r2 hf fin⟩
      | cons r3 rt => rw [hn _ (by simp)] at hf; cases hf
theorem OpS.of3 {r : V → V → V → Hp → VK → Prop} {f : OpF} (h : ∀ v u w d d' d'' x H G Q, Same G H → Rt K H G v d → Rt K H G u d' → Rt K H G w d'' → f [d, d', d''] = some x → Fin K H G x Q → r v u w H Q)
    (hn : ∀ ds, ds.length ≠ 3 → f ds = none := by intro ds h; rcases ds with _ | ⟨d, _ | ⟨d', _ | ⟨d'', _ | ⟨d3, ds⟩⟩⟩⟩ <;> first | rfl | exact absurd rfl h) : OpS K (lift3 r) f := by
  intro vs H G ds x Q s rt hf fin
  cases rt with
  | nil => rw [hn [] (by simp)] at hf; cases hf
  | cons r1 rt =>
    cases rt with
    | nil => rw [hn _ (by simp)] at hf; cases hf
    | cons r2 rt =>
      cases rt with
      | nil => rw [hn _ (by simp)] at hf; cases hf
      | cons r3 rt =>
        cases rt with
        | nil => exact ⟨_, _, _, rfl, h _ _ _ _ _ _ _ _ _ _ s r1 r2 r3 hf fin⟩
        | cons r4 rt => rw [hn _ (by simp)] at hf; cases hf
/-! ### displays -/
theorem EsR.len {xs : List Vl} {vs : List V} (r : EsR K H G F xs vs T) : vs.length = xs.length := by
  induction r with
  | nil => rfl
  | cons _ _ _ ih => simp [ih]
theorem EsR.fz {xs : List Vl} {vs : List V} (r : EsR K H G F xs vs T) : ∀ G', Same G G' → (∀ a, T a → G' a = H a) → FzA K G' vs (xs.map (·.2)) := by
  induction r with
  | nil => exact fun _ _ _ => .nil
  | cons a b c ih => exact fun G' s h => .cons (a.frozen s fun z q => h z (.inl q)) (ih G' s fun z q => h z (.inr q))
theorem esRun_len : ∀ {cs : List CE} {e e' : En} {xs : List Vl}, esRun cs cl e = .ok (e', xs) → xs.length = cs.length
  | [], e, e', xs, h => by cases h; rfl
  | c :: cs, e, e', xs, h => by
    have h0 : ((c cl e).bind fun p => (esRun cs cl p.1).bind fun q => .ok (q.1, p.2 :: q.2)) = R.ok (e', xs) := h
    cases r : c cl e with
    | ok p =>
      rw [R.bind_ok r] at h0
      cases r2 : esRun cs cl p.1 with
      | ok q =>
        rw [R.bind_ok r2] at h0
        cases h0
        have := esRun_len (xs := q.2) (e' := q.1) r2
        simp [this]
      | ex n d e' => rw [R.bind_ex r2] at h0; cases h0
      | no => rw [R.bind_no r2] at h0; cases h0
    | ex n d e' => rw [R.bind_ex r] at h0; cases h0
    | no => rw [R.bind_no r] at h0; cases h0
theorem te_tup {cs : List CE} {Q : VK} (hl : cs.length ≤ sizeLine) (h : rdE K EK W cl (cTup cs) σ H Q) : tTupN (rdEs K EK W cl cs) σ H Q := by
  obtain ⟨e, G, F, P, x, h⟩ := h
  refine ⟨e, G, F, P, x, ?_⟩
  cases q : esRun cs cl e with
  | ok p =>
    simp only [cTup, q, R.bind] at h
    intro vs H1 G1 F1 T1 x1 rs s1
    obtain ⟨x2, z, sG, hT⟩ := frozen_all x x1 s1
    have fin : Fin K H1 (frz H1 G1 T1) (.f, .tuple (p.2.map (·.2))) Q := Fin.of x2 z h
    exact ⟨by rw [rs.len, esRun_len (e' := p.1) (xs := p.2) q]; exact hl, fin.tup (frz_sub x1.sub) (rs.fz _ sG fun a h => frz_in h)⟩
  | ex n d e' =>
    simp only [cTup, q, R.bind] at h
    exact h
  | no =>
    simp only [cTup, q, R.bind] at h
/-- a list display -/
theorem te_lst {cs : List CE} {Q : VK} (hl : cs.length ≤ sizeLine) (h : rdE K EK W cl (cLst cs) σ H Q) : tLst (rdEs K EK W cl cs) σ H Q := by
  obtain ⟨e, G, F, P, x, h⟩ := h
  refine ⟨e, G, F, P, x, ?_⟩
  cases q : esRun cs cl e with
  | ok p =>
    obtain ⟨p1, p2⟩ := p
    simp only [cLst, q, R.bind] at h
    intro vs H1 G1 F1 T1 x1 rs s1
    refine ⟨by rw [rs.len, esRun_len (e' := p1) (xs := p2) q]; exact hl, fun l hn => ?_⟩
    have plain : lstOw p2 = .o → Q (.ref l) (upd H1 l (.lst vs)) := fun ho => by
      rw [ho] at h
      obtain ⟨x2, z, sG, hT⟩ := frozen_all x x1 s1
      have fin : Fin K H1 (frz H1 G1 T1) (.o, .list (p2.map (·.2))) Q := Fin.of x2 z h
      exact fin.lst (frz_sub x1.sub) (rs.fz _ sG fun a h => frz_in h) l hn
    cases rs with
    | nil => exact plain rfl
    | @cons y ys v vs' Ta Tb ro rs dj =>
      obtain ⟨ow, d⟩ := y
      by_cases hb : ow = .o ∧ ∃ es, d = .list es
      · obtain ⟨rfl, es, rfl⟩ := hb
        obtain ⟨b, zs, es', rfl, ee, hb, hz, tb⟩ := ro
        cases ee
        -- the others are frozen, the first one stays owned
        have tg2 : ∀ a, Tb a → G1 a = none := fun a z => s1.tg a (.inr z)
        have sG : Same G1 (frz H1 G1 Tb) := frz_same tg2
        have x2 : Env1 K P H1 (frz H1 G1 Tb) F1 p1 σ := x1.more sG (frz_sub x1.sub) (frz_dis x1.dis fun a z w => s1.dj a z (.inr w)) (frz_dis (fun a z => (x1.pv a z).2.2) fun a z w => s1.np x.pv a z (.inr w))
        have sH : Same H1 (upd H1 l (.lst (.ref b :: vs'))) := fun c u q => by rw [upd_ne (ne_of_none q hn)]; exact q
        have gl : (frz H1 G1 Tb) l = none := (frz_sub x1.sub).free hn
        have x3 : Env1 K P (upd H1 l (.lst (.ref b :: vs'))) (frz H1 G1 Tb) F1 p1 σ := x2.grow sH (Same.refl _) (fun c u q => sH c u (frz_sub x1.sub c u q)) x2.dis fun a z => (x2.pv a z).2.2
        have nbl : b ≠ l := fun z => by rw [z, hn] at hb; cases hb
        refine h (.ref l) _ (frz H1 G1 Tb) F1 (fun a => a = l ∨ Ta a) x3 ⟨l, b, vs', zs, _, es, rfl, rfl, upd_same, sH _ _ hb, rs.fz _ sG fun a h => frz_in h, hz.mono sG, .inl rfl, .inr tb, Ne.symm nbl⟩ ?_
        refine ⟨s1.sg.trans sG, fun a o nf q => sH a o (s1.fr a o nf q), fun a q => (frz_new q).elim (s1.gd a) fun z => .inr (s1.fd a (.inr (.inr z))), fun a q => ?_, fun a z w => ?_, fun a w => ?_, fun a w => ?_⟩
        · rcases q with q | q | q
          · exact s1.fd a (.inl q)
          · subst q
            exact s1.dead (.inr hn)
          · exact s1.fd a (.inr (.inl q))
        · rcases w with w | w
          · subst w
            exact x1.lv a z hn
          · exact s1.dj a z (.inl w)
        · rcases w with w | w
          · subst w; exact gl
          · rw [frz_out (dj a w)]; exact s1.tg a (.inl w)
        · rcases w with w | w
          · subst w; rw [upd_same]; simp
          · cases q : H1 a with
            | none => exact absurd q (s1.tl a (.inl w))
            | some o => rw [sH a o q]; simp
      · refine plain ?_
        cases ow with
        | f => rfl
        | l => rfl
        | b => rfl
        | o => cases d with
          | list es => exact absurd ⟨rfl, es, rfl⟩ hb
          | none => rfl
          | bool _ => rfl
          | int _ => rfl
          | str _ => rfl
          | tuple _ => rfl
          | dict _ => rfl
  | ex n d e' =>
    simp only [cLst, q, R.bind] at h
    exact h
  | no =>
    simp only [cLst, q, R.bind] at h
end
end Ev
end

section
set_option Elab.async false
set_option linter.all false
set_option maxRecDepth 100000
set_option maxHeartbeats 1000000
/-! Tests, targets, locks. -/
namespace Ev
open PySem PySem.Spec PyProof.Rows L2
section
variable {K : PySem.W.Frag} {EK : EKT} {W : WX} {cl : Cl} {G G' H H' : Hp} {P P' : Nat → Addr → Prop} {F F' T T' : Addr → Prop} {e e' : En} {σ : L2.St}
theorem tru_of {v : V} {d : PyData} {b : Bool} (r : Fz K H v d) (h : truth d = some b) : TruV K v H b := by
  cases r with
  | non => cases h; rfl
  | bl c => cases h; rfl
  | int i => cases h; rfl
  | str x _ =>
    have h' : (if x.cps.toList.length ≤ sizeLine then some (x.cps.toList.length != 0) else none) = some b := h
    split at h'
    · rename_i hl
      cases h'
      refine ⟨by simpa [Str.length] using hl, ?_⟩
      show (x.cps.toList.length != 0) = (((x.cps.size : Nat) : Int) != 0)
      rw [Bool.eq_iff_iff]
      simp only [Array.length_toList, bne_iff_ne, ne_eq]
      omega
    · cases h'
  | @lst a xs ds hr hl hh =>
    cases h
    refine .inl ⟨xs, .inl hr, ?_⟩
    cases xs <;> cases ds <;> first | rfl | (simp at hl)
  | @tup a xs ds hr hl hh =>
    cases h
    refine .inr (.inl ⟨xs, hr.t, ?_⟩)
    cases xs <;> cases ds <;> first | rfl | (simp at hl)
theorem te_ctE {a : Ar} {Q : Bool → Hp → Prop} (h : rdT K EK W cl (ctE a) σ H Q) : rd1 K EK W cl a σ H fun x H' => ∃ k, TruV K x H' k ∧ Q k H' := by
  obtain ⟨e, G, F, P, x, h⟩ := h
  refine rdAs_1 (rd_dat x ?_)
  cases q : arRun [a] cl e with
  | ok p =>
    simp only [ctE, q, R.bind] at h
    cases qd : arDat [a] p.1 p.2 with
    | none => simp only [qd] at h
    | some ds =>
      simp only [qd] at h ⊢
      intro vs H1 G1 F1 x1 rt s1 v ev
      subst ev
      cases rt with
      | @cons v d vs ds r1 rt =>
        cases rt with
        | nil =>
          cases qt : truth d with
          | none => simp only [qt] at h
          | some b =>
            simp only [qt] at h
            exact ⟨b, tru_of (r1.fz x1.sub) qt, h H1 G1 F1 x1 s1⟩
  | ex n d e' =>
    simp only [ctE, q, R.bind] at h
    exact h
  | no => simp only [ctE, q, R.bind] at h
/-- a test that gives a truth value -/
def ctB (c : CE) : CT := fun cl e => (c cl e).bind fun p => match p.2 with
  | (.f, .bool b) => .ok (p.1, b)
  | _ => .no
theorem te_ctB {c : CE} {Q : Bool → Hp → Prop} (h : rdT K EK W cl (ctB c) σ H Q) : rdE K EK W cl c σ H fun x H' => ∃ k, x = .bl k ∧ Q k H' := by
  obtain ⟨e, G, F, P, x, h⟩ := h
  refine ⟨e, G, F, P, x, ?_⟩
  cases q : c cl e with
  | ok p =>
    obtain ⟨e1, ow, d⟩ := p
    simp only [ctB, q, R.bind] at h
    intro v H1 G1 F1 T1 x1 r s1
    cases ow with
    | f =>
      cases d with
      | bool b =>
        simp only at h
        cases r with
        | bl _ => exact ⟨b, rfl, h H1 G1 F1 x1 s1.drop⟩
      | _ => simp only at h
    | _ => simp only at h
  | ex n d e' =>
    simp only [ctB, q, R.bind] at h
    exact h
  | no => simp only [ctB, q, R.bind] at h
theorem rdT.imp {c : CT} {Q Q' : Bool → Hp → Prop} (h : rdT K EK W cl c σ H Q) (q : ∀ b H, Q b H → Q' b H) : rdT K EK W cl c σ H Q' := by
  obtain ⟨e, G, F, P, x, h⟩ := h
  refine ⟨e, G, F, P, x, ?_⟩
  cases r : c cl e with
  | ok p =>
    rw [r] at h
    exact fun H' G' F' a s => q _ _ (h H' G' F' a s)
  | ex n d e' =>
    rw [r] at h
    exact h
  | no =>
    rw [r] at h
    exact h
theorem te_not {t : CT} {Q : Bool → Hp → Prop} (h : rdT K EK W cl (ctNot t) σ H Q) : tNot (rdT K EK W cl t) σ H Q := by
  obtain ⟨e, G, F, P, x, h⟩ := h
  refine ⟨e, G, F, P, x, ?_⟩
  cases q : t cl e with
  | ok p =>
    simp only [ctNot, q, R.bind] at h
    exact h
  | ex n d e' =>
    simp only [ctNot, q, R.bind] at h
    exact h
  | no => simp only [ctNot, q, R.bind] at h
theorem te_and {t u : CT} {Q : Bool → Hp → Prop} (h : rdT K EK W cl (ctAnd t u) σ H Q) : tAnd (rdT K EK W cl t) (rdT K EK W cl u) σ H Q := by
  obtain ⟨e, G, F, P, x, h⟩ := h
  refine ⟨e, G, F, P, x, ?_⟩
  cases q : t cl e with
  | ok p =>
    obtain ⟨e1, b⟩ := p
    simp only [ctAnd, q, R.bind] at h
    intro H1 G1 F1 x1 s1
    cases b with
    | true =>
      rw [if_pos rfl]
      refine ⟨e1, G1, F1, P, x1, ?_⟩
      cases q2 : u cl e1 with
      | ok p2 =>
        simp only [q2] at h
        exact fun H2 G2 F2 x2 s2 => h H2 G2 F2 x2 (s1.trans0 s2)
      | ex n d e' =>
        simp only [q2] at h
        exact WEx.back h s1
      | no => simp only [q2] at h
    | false =>
      rw [if_neg Bool.false_ne_true]
      exact h H1 G1 F1 x1 s1
  | ex n d e' =>
    simp only [ctAnd, q, R.bind] at h
    exact h
  | no => simp only [ctAnd, q, R.bind] at h
theorem te_or {t u : CT} {Q : Bool → Hp → Prop} (h : rdT K EK W cl (ctOr t u) σ H Q) : tOr (rdT K EK W cl t) (rdT K EK W cl u) σ H Q := by
  obtain ⟨e, G, F, P, x, h⟩ := h
  refine ⟨e, G, F, P, x, ?_⟩
  cases q : t cl e with
  | ok p =>
    obtain ⟨e1, b⟩ := p
    simp only [ctOr, q, R.bind] at h
    intro H1 G1 F1 x1 s1
    cases b with
    | false =>
      rw [if_neg Bool.false_ne_true]
      refine ⟨e1, G1, F1, P, x1, ?_⟩
      cases q2 : u cl e1 with
      | ok p2 =>
        simp only [q2] at h
        exact fun H2 G2 F2 x2 s2 => h H2 G2 F2 x2 (s1.trans0 s2)
      | ex n d e' =>
        simp only [q2] at h
        exact WEx.back h s1
      | no => simp only [q2] at h
    | true =>
      rw [if_pos rfl]
      exact h H1 G1 F1 x1 s1
  | ex n d e' =>
    simp only [ctOr, q, R.bind] at h
    exact h
  | no => simp only [ctOr, q, R.bind] at h
theorem te_ifE {t : CT} {a b : CE} {Q : VK} (h : rdE K EK W cl (cIfE t a b) σ H Q) : tIf (rdT K EK W cl t) (rdE K EK W cl a) (rdE K EK W cl b) σ H Q := by
  obtain ⟨e, G, F, P, x, h⟩ := h
  refine ⟨e, G, F, P, x, ?_⟩
  cases q : t cl e with
  | ok p =>
    obtain ⟨e1, c⟩ := p
    simp only [cIfE, q, R.bind] at h
    intro H1 G1 F1 x1 s1
    have go : ∀ u : CE, (match u cl e1 with
      | .ok p => ∀ v H' G' F' T, Env1 K P H' G' F' p.1 σ → Rv K H' G' p.2.1 v p.2.2 T → Stp H G F H' G' F' T → Q v H'
      | .ex n d e' => WEx K EK W P H G F σ n d e'
      | .no => False) → rdE K EK W cl u σ H1 Q := fun u h => by
      refine ⟨e1, G1, F1, P, x1, ?_⟩
      cases q2 : u cl e1 with
      | ok p2 =>
        simp only [q2] at h
        exact fun v H2 G2 F2 T2 x2 r s2 => h v H2 G2 F2 T2 x2 r (s1.trans0 s2)
      | ex n d e' =>
        simp only [q2] at h
        exact WEx.back h s1
      | no => simp only [q2] at h
    cases c with
    | true => exact go a h
    | false => exact go b h
  | ex n d e' =>
    simp only [cIfE, q, R.bind] at h
    exact h
  | no => simp only [cIfE, q, R.bind] at h
theorem te_notV {a : Ar} {Q : VK} (h : rdE K EK W cl (cNot a) σ H Q) : tNotT K (rd1 K EK W cl a) σ H Q := by
  refine rd1.imp (te_ctE (Q := fun k H' => Q (.bl (!k)) H') ?_) fun x H' h => h
  obtain ⟨e, G, F, P, x, h⟩ := h
  refine ⟨e, G, F, P, x, ?_⟩
  cases q : ctE a cl e with
  | ok p =>
    simp only [cNot, q, R.bind] at h
    exact fun H1 G1 F1 x1 s1 => h (.bl (!p.2)) H1 G1 F1 NoA x1 (.bl _) s1
  | ex n d e' =>
    simp only [cNot, q, R.bind] at h
    exact h
  | no => simp only [cNot, q, R.bind] at h
/-- one value, frozen -/
theorem frozen1 {H0 G0 : Hp} {F0 : Addr → Prop} {ow : Ow} {v : V} {d : PyData} (x0 : Env1 K P H0 G0 F0 e' σ) (x1 : Env1 K P H G F e σ) (r : Rv K H G ow v d T) (s : Stp H0 G0 F0 H G F T) :
    ∃ G', Env1 K P H G' F e σ ∧ Stp H0 G0 F0 H G' F NoA ∧ Fz K G' v d := by
  obtain ⟨x2, z, sG, hT⟩ := frozen_all x0 x1 s
  exact ⟨_, x2, z, r.frozen sG hT⟩
theorem te_andV {a b : CE} {Q : VK} (h : rdE K EK W cl (cAnd a b) σ H Q) : tAndT K (rdE K EK W cl a) (rdE K EK W cl b) σ H Q := by
  obtain ⟨e, G, F, P, x, h⟩ := h
  refine ⟨e, G, F, P, x, ?_⟩
  cases q : a cl e with
  | ok p =>
    simp only [cAnd, q, R.bind] at h
    intro v H1 G1 F1 T1 x1 r s1
    obtain ⟨G2, x2, s2, fz⟩ := frozen1 x x1 r s1
    cases qt : truth p.2.2 with
    | none => simp only [qt] at h
    | some k =>
      refine ⟨k, tru_of (fz.mono x2.sub) qt, ?_⟩
      cases k with
      | true =>
        simp only [qt] at h
        rw [if_pos rfl]
        refine ⟨p.1, G2, F1, P, x2, ?_⟩
        cases q2 : b cl p.1 with
        | ok p2 =>
          simp only [q2] at h
          exact fun v H2 G2 F2 T2 x2 r s3 => h v H2 G2 F2 T2 x2 r (s2.trans0 s3)
        | ex n d e' =>
          simp only [q2] at h
          exact WEx.back h s2
        | no => simp only [q2] at h
      | false =>
        simp only [qt] at h
        rw [if_neg Bool.false_ne_true]
        exact h v H1 G2 F1 NoA x2 fz s2
  | ex n d e' =>
    simp only [cAnd, q, R.bind] at h
    exact h
  | no => simp only [cAnd, q, R.bind] at h
theorem te_orV {a b : CE} {Q : VK} (h : rdE K EK W cl (cOr a b) σ H Q) : tOrT K (rdE K EK W cl a) (rdE K EK W cl b) σ H Q := by
  obtain ⟨e, G, F, P, x, h⟩ := h
  refine ⟨e, G, F, P, x, ?_⟩
  cases q : a cl e with
  | ok p =>
    simp only [cOr, q, R.bind] at h
    intro v H1 G1 F1 T1 x1 r s1
    obtain ⟨G2, x2, s2, fz⟩ := frozen1 x x1 r s1
    cases qt : truth p.2.2 with
    | none => simp only [qt] at h
    | some k =>
      refine ⟨k, tru_of (fz.mono x2.sub) qt, ?_⟩
      cases k with
      | false =>
        simp only [qt] at h
        rw [if_neg Bool.false_ne_true]
        refine ⟨p.1, G2, F1, P, x2, ?_⟩
        cases q2 : b cl p.1 with
        | ok p2 =>
          simp only [q2] at h
          exact fun v H2 G2 F2 T2 x2 r s3 => h v H2 G2 F2 T2 x2 r (s2.trans0 s3)
        | ex n d e' =>
          simp only [q2] at h
          exact WEx.back h s2
        | no => simp only [q2] at h
      | true =>
        simp only [qt] at h
        rw [if_pos rfl]
        exact h v H1 G2 F1 NoA x2 fz s2
  | ex n d e' =>
    simp only [cOr, q, R.bind] at h
    exact h
  | no => simp only [cOr, q, R.bind] at h
/-! ### a slot is set -/
theorem Env1.put {i : Nat} {x : Vl} {v : V} (en : Env1 K P H G F e σ) (r : Rv K H G x.1 v x.2 T) (dT : ∀ a, T a → ¬ F a ∧ H a ≠ none ∧ G a = none) (nP : ∀ a, (∃ i, P i a) → ¬ T a) :
    Env1 K P H G (fun a => F a ∨ T a) (st e i (some x)) (σ.set i (some v)) := by
  obtain ⟨fp, h1, h2, h3⟩ := en.fp
  refine ⟨fun a z => ⟨fun w => w.elim (en.pv a z).1 (nP a z), (en.pv a z).2⟩, en.sub, fun a z => z.elim (en.dis a) fun w => (dT a w).2.2, fun a z => z.elim (en.lv a) fun w => (dT a w).2.1, by rw [st_len, List.length_set]; exact en.len,
    ⟨fun j a => (j = i ∧ T a) ∨ (j ≠ i ∧ fp j a), fun j y hy => ?_, fun j a z => z.elim (fun w => .inr w.2) fun w => .inl (h2 j a w.2), fun j k a z w => ?_⟩⟩
  · by_cases hj : i = j
    · subst hj
      by_cases hi : i < e.length
      · rw [gt_st_same hi] at hy
        cases hy
        refine ⟨v, List.getElem?_set_self (by rw [← en.len]; exact hi), ?_⟩
        have r' := Rv.ro (P := P i) r
        obtain ⟨ow, d⟩ := x
        cases ow with
        | f => exact r'
        | l => exact r.elim
        | o =>
          obtain ⟨a, xs, ds, q1, q2, q3, q4, q5⟩ := r
          exact ⟨a, xs, ds, q1, q2, q3, q4, .inl ⟨rfl, q5⟩⟩
        | b =>
          obtain ⟨a, b, xs, ys, ds, es, q1, q2, q3, q4, q5, q6, q7, q8, q9⟩ := r
          exact ⟨a, b, xs, ys, ds, es, q1, q2, q3, q4, q5, q6, .inl ⟨rfl, q7⟩, .inl ⟨rfl, q8⟩, q9⟩
      · have hl := gt_lt hy
        rw [st_len] at hl
        exact absurd hl hi
    · rw [gt_st_ne hj] at hy
      obtain ⟨u, hu, ro⟩ := h1 j y hy
      refine ⟨u, by rw [List.getElem?_set_ne hj]; exact hu, ?_⟩
      obtain ⟨ow, d⟩ := y
      cases ow with
      | f => exact ro
      | l => exact ro
      | o =>
        obtain ⟨a, xs, ds, q1, q2, q3, q4, q5⟩ := ro
        exact ⟨a, xs, ds, q1, q2, q3, q4, .inr ⟨fun z => hj z.symm, q5⟩⟩
      | b =>
        obtain ⟨a, b, xs, ys, ds, es, q1, q2, q3, q4, q5, q6, q7, q8, q9⟩ := ro
        exact ⟨a, b, xs, ys, ds, es, q1, q2, q3, q4, q5, q6, .inr ⟨fun z => hj z.symm, q7⟩, .inr ⟨fun z => hj z.symm, q8⟩, q9⟩
  · rcases z with ⟨rfl, z⟩ | ⟨nz, z⟩ <;> rcases w with ⟨rfl, w⟩ | ⟨nw, w⟩
    · rfl
    · exact absurd (h2 k a w) (dT a z).1
    · exact absurd (h2 j a z) (dT a w).1
    · exact h3 j k a z w
/-- a frozen value is put -/
theorem Env1.putF {i : Nat} {d : PyData} {v : V} (en : Env1 K P H G F e σ) (r : Fz K G v d) : Env1 K P H G F (st e i (some (.f, d))) (σ.set i (some v)) := by
  have q := en.put (i := i) (x := (.f, d)) (T := NoA) r (fun _ z => z.elim) fun _ _ z => z
  have hF : (fun a => F a ∨ NoA a) = F := by
    funext a
    simp
  rw [hF] at q
  exact q
/-- a value at the end of a step is put -/
theorem Env1.putS {H0 G0 : Hp} {F0 : Addr → Prop} {i : Nat} {x : Vl} {v : V} (x0 : Env1 K P H0 G0 F0 e' σ) (en : Env1 K P H G F e σ) (r : Rv K H G x.1 v x.2 T) (s : Stp H0 G0 F0 H G F T) :
    Env1 K P H G (fun a => F a ∨ T a) (st e i (some x)) (σ.set i (some v)) ∧ Stp H0 G0 F0 H G (fun a => F a ∨ T a) NoA :=
  ⟨en.put r (fun a z => ⟨fun w => s.dj a w z, s.tl a z, s.tg a z⟩) (s.np x0.pv),
    ⟨s.sg, s.fr, s.gd, fun a z => z.elim (fun w => s.fd a w) False.elim, fun _ _ z => z, fun _ z => z.elim, fun _ z => z.elim⟩⟩
/-- slots are forgotten -/
theorem Env1.forget {i : Nat} (en : Env1 K P H G F e σ) (y : Option V) : Env1 K P H G F (st e i none) (σ.set i y) := by
  obtain ⟨fp, h1, h2, h3⟩ := en.fp
  refine ⟨en.pv, en.sub, en.dis, en.lv, by rw [st_len, List.length_set]; exact en.len, fp, fun j x hx => ?_, h2, h3⟩
  by_cases hj : i = j
  · subst hj
    by_cases hi : i < e.length
    · rw [gt_st_same hi] at hx; cases hx
    · have hl := gt_lt hx
      rw [st_len] at hl
      exact absurd hl hi
  · rw [gt_st_ne hj] at hx
    obtain ⟨u, hu, ro⟩ := h1 j x hx
    exact ⟨u, by rw [List.getElem?_set_ne hj]; exact hu, ro⟩
theorem Env1.wipe : ∀ (own : List Nat) {e : En} {σ : L2.St}, Env1 K P H G F e σ → Env1 K P H G F (wipeE own e) (wipe σ own)
  | [], _, _, en => en
  | i :: r, _, _, en => (Env1.wipe r en).forget none
/-! ### locks -/
theorem set_self {α : Type} : ∀ (l : List α) (i : Nat) (x : α), l[i]? = some x → l.set i x = l
  | [], _, _, h => by simp at h
  | _ :: _, 0, _, h => by simp at h; subst h; rfl
  | y :: l, i + 1, x, h => by
    show y :: l.set i x = y :: l
    rw [set_self l i x (by simpa using h)]
theorem Env1.lock1 {i : Nat} {d : PyData} (en : Env1 K P H G F e σ) (h : gt e i = some (.o, d)) :
    ∃ a, σ[i]? = some (some (.ref a)) ∧ F a ∧ Env1 K (fun j b => P j b ∨ (j = i ∧ b = a)) H G (fun b => F b ∧ b ≠ a) (st e i (some (.l, d))) σ := by
  obtain ⟨fp, h1, h2, h3⟩ := en.fp
  obtain ⟨v, hv, a, xs, ds, rfl, rfl, q3, q4, q5⟩ := h1 i _ h
  have hi := gt_lt h
  have hF := h2 i a q5
  refine ⟨a, hv, hF, ⟨fun b z => ?_, en.sub, fun b z => en.dis b z.1, fun b z => en.lv b z.1, by rw [st_len]; exact en.len, ⟨fun j b => fp j b ∧ j ≠ i, fun j x hx => ?_, fun j b z => ⟨h2 j b z.1, fun w => z.2 (h3 j i b z.1 (w ▸ q5))⟩, fun j k b z w => h3 j k b z.1 w.1⟩⟩⟩
  · obtain ⟨j, z | ⟨_, rfl⟩⟩ := z
    · exact ⟨fun w => (en.pv b ⟨j, z⟩).1 w.1, (en.pv b ⟨j, z⟩).2⟩
    · exact ⟨fun w => w.2 rfl, en.lv b hF, en.dis b hF⟩
  · by_cases hj : i = j
    · subst hj
      rw [gt_st_same hi] at hx
      cases hx
      exact ⟨_, hv, a, xs, ds, rfl, rfl, q3, q4, .inr ⟨rfl, rfl⟩⟩
    · rw [gt_st_ne hj] at hx
      obtain ⟨u, hu, ro⟩ := h1 j x hx
      refine ⟨u, hu, ?_⟩
      obtain ⟨ow, dd⟩ := x
      cases ow with
      | f => exact ro
      | l =>
        obtain ⟨a, xs, ds, w1, w2, w3, w4, w5⟩ := ro
        exact ⟨a, xs, ds, w1, w2, w3, w4, .inl w5⟩
      | o =>
        obtain ⟨a, xs, ds, w1, w2, w3, w4, w5⟩ := ro
        exact ⟨a, xs, ds, w1, w2, w3, w4, w5, fun z => hj z.symm⟩
      | b =>
        obtain ⟨a, b, xs, ys, ds, es, w1, w2, w3, w4, w5, w6, w7, w8, w9⟩ := ro
        exact ⟨a, b, xs, ys, ds, es, w1, w2, w3, w4, w5, w6, ⟨w7, fun z => hj z.symm⟩, ⟨w8, fun z => hj z.symm⟩, w9⟩
theorem Env1.unlock1 {i : Nat} {a : Addr} {e2 : En} (en : Env1 K (fun j b => P j b ∨ (j = i ∧ b = a)) H G F e σ) (np : ¬ ∃ j, P j a) (hv : σ[i]? = some (some (.ref a))) (h : unlock1 i e = some e2) : Env1 K P H G (fun b => F b ∨ b = a) e2 σ := by
  obtain ⟨fp, h1, h2, h3⟩ := en.fp
  unfold Ev.unlock1 at h
  cases g : gt e i with
  | none => rw [g] at h; cases h
  | some y =>
    obtain ⟨ow, d⟩ := y
    rw [g] at h
    cases ow with
    | f => cases h
    | o => cases h
    | b => cases h
    | l =>
      cases h
      have hi := gt_lt g
      obtain ⟨v, hv', a', xs, ds, rfl, e1, q3, q4, q5⟩ := h1 i _ g
      rw [hv] at hv'
      cases hv'
      have pa := en.pv a ⟨i, .inr ⟨rfl, rfl⟩⟩
      refine ⟨fun b z => ?_, en.sub, fun b z => z.elim (en.dis b) fun w => by rw [w]; exact pa.2.2, fun b z => z.elim (en.lv b) fun w => by rw [w]; exact pa.2.1, by rw [st_len]; exact en.len,
        ⟨fun j b => fp j b ∧ j ≠ i ∨ (j = i ∧ b = a), fun j x hx => ?_, fun j b z => z.elim (fun w => .inl (h2 j b w.1)) fun w => .inr w.2, fun j k b z w => ?_⟩⟩
      · obtain ⟨j, z⟩ := z
        exact ⟨fun w => w.elim (en.pv b ⟨j, .inl z⟩).1 fun w => np ⟨j, w ▸ z⟩, (en.pv b ⟨j, .inl z⟩).2⟩
      · by_cases hj : i = j
        · subst hj
          rw [gt_st_same hi] at hx
          cases hx
          exact ⟨_, hv, a, xs, ds, rfl, e1, q3, q4, .inr ⟨rfl, rfl⟩⟩
        · rw [gt_st_ne hj] at hx
          obtain ⟨u, hu, ro⟩ := h1 j x hx
          refine ⟨u, hu, ?_⟩
          obtain ⟨ow, dd⟩ := x
          cases ow with
          | f => exact ro
          | l =>
            obtain ⟨a, xs, ds, w1, w2, w3, w4, w5⟩ := ro
            exact ⟨a, xs, ds, w1, w2, w3, w4, w5.elim id fun z => absurd z.1.symm hj⟩
          | o =>
            obtain ⟨a, xs, ds, w1, w2, w3, w4, w5⟩ := ro
            exact ⟨a, xs, ds, w1, w2, w3, w4, .inl ⟨w5, fun z => hj z.symm⟩⟩
          | b =>
            obtain ⟨a, b, xs, ys, ds, es, w1, w2, w3, w4, w5, w6, w7, w8, w9⟩ := ro
            exact ⟨a, b, xs, ys, ds, es, w1, w2, w3, w4, w5, w6, .inl ⟨w7, fun z => hj z.symm⟩, .inl ⟨w8, fun z => hj z.symm⟩, w9⟩
      · rcases z with ⟨z, nz⟩ | ⟨zj, zb⟩ <;> rcases w with ⟨w, nw⟩ | ⟨wk, wb⟩
        · exact h3 j k b z w
        · exact absurd (wb ▸ h2 j b z) pa.1
        · exact absurd (zb ▸ h2 k b w) pa.1
        · exact zj.trans wk.symm
/-- the slots of the names -/
def arSl : List Ar → List Nat
  | [] => []
  | .v _ :: r => arSl r
  | .n i :: r => i :: arSl r
theorem lock_ok : ∀ {as : List Ar} {e e1 : En} {P : Nat → Addr → Prop} {F : Addr → Prop}, Env1 K P H G F e σ → lockL as e = some e1 →
    ∃ P' F', Env1 K P' H G F' e1 σ ∧ (∀ i ∈ arSl as, ∀ x a, gt e i = some x → x.1 = .o ∨ x.1 = .l → σ[i]? = some (some (.ref a)) → ¬ F' a) ∧ (∀ j a, P j a → P' j a) ∧ (∀ a, F' a → F a) ∧ (∀ j a, P' j a → P j a ∨ F a) ∧
      ∀ H2 G2 F2 T2 e2 e3 σ2, Env1 K P' H2 G2 F2 e2 σ2 → Stp H G F' H2 G2 F2 T2 → (∀ i ∈ arSl as, σ2[i]? = σ[i]?) → unlockL as e e2 = some e3 → ∃ F3, Env1 K P H2 G2 F3 e3 σ2 ∧ Stp H G F H2 G2 F3 T2
  | [], e, e1, P, F, en, h => by
    cases h
    exact ⟨P, F, en, fun i hi => (by cases hi), fun _ _ z => z, fun _ z => z, fun _ _ z => .inl z, fun H2 G2 F2 T2 e2 e3 σ2 x s _ h => by cases h; exact ⟨F2, x, s⟩⟩
  | .v c :: as, e, e1, P, F, en, h => by
    obtain ⟨P', F', a1, a0, a2, a3, a4, a5⟩ := lock_ok (as := as) en h
    exact ⟨P', F', a1, a0, a2, a3, a4, fun H2 G2 F2 T2 e2 e3 σ2 x s k h => a5 H2 G2 F2 T2 e2 e3 σ2 x s k h⟩
  | .n i :: as, e, e1, P, F, en, h => by
    have h0 : (match gt e i with
      | some (.o, d) => lockL as (st e i (some (.l, d)))
      | some (.f, _) => lockL as e
      | some (.l, _) => lockL as e
      | _ => none) = some e1 := h
    have plain : lockL as e = some e1 → (∀ d, gt e i ≠ some (.o, d)) → ∃ P' F', Env1 K P' H G F' e1 σ ∧ (∀ j ∈ arSl (.n i :: as), ∀ x a, gt e j = some x → x.1 = .o ∨ x.1 = .l → σ[j]? = some (some (.ref a)) → ¬ F' a) ∧ (∀ j a, P j a → P' j a) ∧ (∀ a, F' a → F a) ∧ (∀ j a, P' j a → P j a ∨ F a) ∧
      ∀ H2 G2 F2 T2 e2 e3 σ2, Env1 K P' H2 G2 F2 e2 σ2 → Stp H G F' H2 G2 F2 T2 → (∀ j ∈ arSl (.n i :: as), σ2[j]? = σ[j]?) → unlockL (.n i :: as) e e2 = some e3 → ∃ F3, Env1 K P H2 G2 F3 e3 σ2 ∧ Stp H G F H2 G2 F3 T2 := fun h hn => by
      obtain ⟨P', F', a1, a0, a2, a3, a4, a5⟩ := lock_ok (as := as) en h
      refine ⟨P', F', a1, fun j hj x a g w hv => ?_, a2, a3, a4, fun H2 G2 F2 T2 e2 e3 σ2 x s k h => a5 H2 G2 F2 T2 e2 e3 σ2 x s (fun j hj => k j (List.mem_cons_of_mem _ hj)) ?_⟩
      · rcases List.mem_cons.mp hj with rfl | hj
        · obtain ⟨ow, d⟩ := x
          rcases w with rfl | rfl
          · exact absurd g (hn d)
          · obtain ⟨fp, h1, _, _⟩ := en.fp
            obtain ⟨v, hv', a', xs, ds, rfl, _, _, _, q5⟩ := h1 j _ g
            rw [hv] at hv'
            cases hv'
            exact fun z => (en.pv a ⟨j, q5⟩).1 (a3 a z)
        · exact a0 j hj x a g w hv
      have h1 : (match gt e i with
        | some (.o, d) => (unlockL as (st e i (some (.l, d))) e2).bind (Ev.unlock1 i)
        | _ => unlockL as e e2) = some e3 := h
      cases g : gt e i with
      | none => rw [g] at h1; exact h1
      | some y =>
        obtain ⟨ow, d⟩ := y
        rw [g] at h1
        cases ow with
        | o => exact absurd g (hn d)
        | f => exact h1
        | l => exact h1
        | b => exact h1
    cases g : gt e i with
    | none => rw [g] at h0; cases h0
    | some y =>
      obtain ⟨ow, d⟩ := y
      rw [g] at h0
      cases ow with
      | b => cases h0
      | f => exact plain h0 fun d' z => by rw [g] at z; cases z
      | l => exact plain h0 fun d' z => by rw [g] at z; cases z
      | o =>
        obtain ⟨a, hv, hF, en1⟩ := en.lock1 g
        obtain ⟨P', F', a1, a0, a2, a3, a4, a5⟩ := lock_ok (as := as) en1 h0
        refine ⟨P', F', a1, fun j hj x b gj w hv' => ?_, fun j b z => a2 j b (.inl z), fun b z => (a3 b z).1, fun j b z => ?_, fun H2 G2 F2 T2 e2 e3 σ2 x s k h => ?_⟩
        · by_cases hji : i = j
          · subst hji
            rw [hv] at hv'
            cases hv'
            exact fun z => (a3 a z).2 rfl
          · rcases List.mem_cons.mp hj with rfl | hj
            · exact absurd rfl hji
            · exact a0 j hj x b (by rw [gt_st_ne hji]; exact gj) w hv'
        · rcases a4 j b z with w | w
          · rcases w with w | ⟨_, rfl⟩
            · exact .inl w
            · exact .inr hF
          · exact .inr w.1
        · have h1 : (match gt e i with
            | some (.o, d) => (unlockL as (st e i (some (.l, d))) e2).bind (Ev.unlock1 i)
            | _ => unlockL as e e2) = some e3 := h
          rw [g] at h1
          cases qu : unlockL as (st e i (some (.l, d))) e2 with
          | none => simp only [qu, Option.bind_none] at h1; cases h1
          | some e4 =>
            simp only [qu, Option.bind_some] at h1
            obtain ⟨F3, x3, s3⟩ := a5 H2 G2 F2 T2 e2 e4 σ2 x s (fun j hj => k j (List.mem_cons_of_mem _ hj)) qu
            have np : ¬ ∃ j, P j a := fun z => (en.pv a z).1 hF
            have hv2 : σ2[i]? = some (some (.ref a)) := (k i (List.mem_cons_self ..)).trans hv
            have pa := x3.pv a ⟨i, .inr ⟨rfl, rfl⟩⟩
            refine ⟨fun b => F3 b ∨ b = a, x3.unlock1 np hv2 h1, ⟨s3.sg, fun b o nf q => s3.fr b o (fun z => nf z.1) q, fun b q => (s3.gd b q).imp_right fun z => z.imp_left And.left, fun b q => ?_, fun b q w => ?_, s3.tg, s3.tl⟩⟩
            · rcases q with (q | rfl) | q
              · exact (s3.fd b (.inl q)).imp_left And.left
              · exact .inl hF
              · exact (s3.fd b (.inr q)).imp_left And.left
            · rcases q with q | rfl
              · exact s3.dj b q w
              · rcases s3.fd b (.inr w) with z | z
                · exact z.2 rfl
                · exact en.lv b hF z
end
end Ev
end

section
set_option Elab.async false
set_option linter.all false
set_option maxRecDepth 100000
set_option maxHeartbeats 1000000
/-! Targets, what is walked, comprehensions. -/
namespace Ev
open PySem PySem.Spec PyProof.Rows L2
section
variable {X : Cx} {K : PySem.W.Frag} {EK : EKT} {W : WX} {cl : Cl} {G G' H H' : Hp} {P P' : Nat → Addr → Prop} {F F' T T' : Addr → Prop} {e e' : En} {σ σ' : L2.St}
theorem upd_out {p : Addr} {o : HO} (h : H p = none) : Same H (upd H p o) := fun b u q => by rw [upd_ne (ne_of_none q h)]; exact q
/-! ### targets -/
/-- a pair as an iterator hands it out -/
def PairV (K : PySem.W.Frag) (H G : Hp) (v : V) (d : PyData) : Prop := ∃ T x y d1 d2, v = .ref T ∧ d = .tuple [d1, d2] ∧ H T = some (.tup [x, y]) ∧ Fz K G x d1 ∧ Fz K G y d2
def isT : Tg → Bool
  | .t _ => true
  | .n _ => false
mutual
def tgSl : Tg → List Nat
  | .n i => [i]
  | .t l => tgSlA l
def tgSlA : List Tg → List Nat
  | [] => []
  | t :: l => tgSl t ++ tgSlA l
end
def rdG (K : PySem.W.Frag) (tg : Tg) : TG := fun v σ H Q => ∃ e G F P d, Env1 K P H G F e σ ∧ (Fz K G v d ∨ (isT tg = true ∧ PairV K H G v d)) ∧ match tgSet tg d e with
  | some e' => ∀ σ', Env1 K P H G F e' σ' → σ'.length = σ.length → (∀ j, j ∉ tgSl tg → σ'[j]? = σ[j]?) → Q σ' H
  | none => False
def rdGs (K : PySem.W.Frag) (tgs : List Tg) : TGs := fun vs σ H Q => ∃ e G F P ds, Env1 K P H G F e σ ∧ FzA K G vs ds ∧ match tgSetAll tgs ds e with
  | some e' => ∀ σ', Env1 K P H G F e' σ' → σ'.length = σ.length → (∀ j, j ∉ tgSlA tgs → σ'[j]? = σ[j]?) → Q σ' H
  | none => False
theorem tg_name {i : Nat} {v : V} {Q : L2.St → Hp → Prop} (h : rdG K (.n i) v σ H Q) : gName i v σ H Q := by
  obtain ⟨e, G, F, P, d, x, r, h⟩ := h
  rcases r with r | ⟨z, _⟩
  · have h0 : (match (match gt e i with
      | some (.l, _) => none
      | _ => some (st e i (some (.f, d)))) with
      | some e' => ∀ σ', Env1 K P H G F e' σ' → σ'.length = σ.length → (∀ j, j ∉ [i] → σ'[j]? = σ[j]?) → Q σ' H
      | none => False : Prop) := h
    have go : (∀ σ', Env1 K P H G F (st e i (some (.f, d))) σ' → σ'.length = σ.length → (∀ j, j ∉ [i] → σ'[j]? = σ[j]?) → Q σ' H) → gName i v σ H Q := fun h =>
      h _ (x.putF r) (List.length_set) fun j hj => List.getElem?_set_ne fun z => hj (by rw [z]; exact List.mem_singleton.mpr rfl)
    cases g : gt e i with
    | none => rw [g] at h0; exact go h0
    | some y =>
      obtain ⟨ow, dd⟩ := y
      rw [g] at h0
      cases ow with
      | l => exact h0.elim
      | f => exact go h0
      | o => exact go h0
      | b => exact go h0
  · cases z
theorem tgs_nil {vs : List V} {Q : L2.St → Hp → Prop} (h : rdGs K [] vs σ H Q) : gNil vs σ H Q := by
  obtain ⟨e, G, F, P, ds, x, r, h⟩ := h
  cases ds with
  | nil => exact ⟨r.nil_r, h σ x rfl fun _ _ => rfl⟩
  | cons d ds =>
    simp only [tgSetAll] at h
theorem tgs_cons {t : Tg} {l : List Tg} {vs : List V} {Q : L2.St → Hp → Prop} (h : rdGs K (t :: l) vs σ H Q) : gCons (rdG K t) (rdGs K l) vs σ H Q := by
  obtain ⟨e, G, F, P, ds, x, r, h⟩ := h
  cases ds with
  | nil => simp only [tgSetAll] at h
  | cons d ds =>
    obtain ⟨v, vr, rfl, f1, f2⟩ := r.cons_r
    refine ⟨v, vr, rfl, e, G, F, P, d, x, .inl f1, ?_⟩
    simp only [tgSetAll] at h
    cases q : tgSet t d e with
    | none => simp only [q] at h
    | some e1 =>
      simp only [q] at h
      intro σ1 x1 hl k1
      refine ⟨e1, G, F, P, ds, x1, f2, ?_⟩
      cases q2 : tgSetAll l ds e1 with
      | none => simp only [q2] at h
      | some e2 =>
        simp only [q2] at h
        refine fun σ2 x2 hl2 k2 => h σ2 x2 (hl2.trans hl) fun j hj => ?_
        simp only [tgSlA, List.mem_append, not_or] at hj
        exact (k2 j hj.2).trans (k1 j hj.1)
theorem tgSetAll_len : ∀ {l : List Tg} {ds : List PyData} {e e1 : En}, tgSetAll l ds e = some e1 → ds.length = l.length
  | [], [], _, _, _ => rfl
  | [], _ :: _, _, _, h => by simp only [tgSetAll] at h; cases h
  | _ :: _, [], _, _, h => by simp only [tgSetAll] at h; cases h
  | t :: l, d :: ds, e, e1, h => by
    simp only [tgSetAll] at h
    cases q : tgSet t d e with
    | none => simp only [q] at h; cases h
    | some e2 =>
      simp only [q] at h
      have := tgSetAll_len h
      simp [this]
theorem tg_tup {l : List Tg} {v : V} {Q : L2.St → Hp → Prop} (h : rdG K (.t l) v σ H Q) : gTup K l.length (rdGs K l) v σ H Q ∨ gLst K l.length (rdGs K l) v σ H Q := by
  obtain ⟨e, G, F, P, d, x, r, h⟩ := h
  have go : ∀ ds xs, FzA K G xs ds → (match tgSetAll l ds e with
    | some e' => ∀ σ', Env1 K P H G F e' σ' → σ'.length = σ.length → (∀ j, j ∉ tgSl (.t l) → σ'[j]? = σ[j]?) → Q σ' H
    | none => False) → xs.length = l.length ∧ rdGs K l xs σ H Q := fun ds xs hf h => by
    cases q : tgSetAll l ds e with
    | none => rw [q] at h; exact h.elim
    | some e1 =>
      rw [q] at h
      refine ⟨hf.len.trans (tgSetAll_len q), e, G, F, P, ds, x, hf, ?_⟩
      rw [q]
      intro σ' x' hl k
      refine h σ' x' hl fun j hj => k j ?_
      rw [tgSl] at hj
      exact hj
  rcases r with r | ⟨_, T, a, b, d1, d2, rfl, rfl, hT, r1, r2⟩
  · cases d with
    | tuple ds =>
      cases r with
      | tup hr hl hh =>
        obtain ⟨h1, h2⟩ := go ds _ ⟨hl, hh⟩ (by simpa only [tgSet] using h)
        exact .inl ⟨_, _, rfl, (SqN.same x.sub hr).t, h1, h2⟩
    | list ds =>
      cases r with
      | lst hr hl hh =>
        obtain ⟨h1, h2⟩ := go ds _ ⟨hl, hh⟩ (by simpa only [tgSet] using h)
        exact .inr ⟨_, _, rfl, .inl (Rd.same x.sub hr), h1, h2⟩
    | _ => simp only [tgSet] at h
  · obtain ⟨h1, h2⟩ := go [d1, d2] [a, b] (.cons r1 (.cons r2 .nil)) (by simpa only [tgSet] using h)
    exact .inl ⟨T, _, rfl, .inl (.inl hT), h1, h2⟩
theorem PG.imp {tg : Expr} {t t' : TG} (h : PG X tg t) (q : ∀ v σ H Q, t' v σ H Q → t v σ H Q) : PG X tg t' := ⟨fun pins s σ H v u Q I r w => h.run pins s σ H v u Q I r (q _ _ _ _ w)⟩
theorem PG.or {tg : Expr} {t t' : TG} (h : PG X tg t) (h' : PG X tg t') : PG X tg (fun v σ H Q => t v σ H Q ∨ t' v σ H Q) := ⟨fun pins s σ H v u Q I r w => w.elim (h.run pins s σ H v u Q I r) (h'.run pins s σ H v u Q I r)⟩
theorem PGs.imp {ts : List Expr} {t t' : TGs} (h : PGs X ts t) (q : ∀ v σ H Q, t' v σ H Q → t v σ H Q) : PGs X ts t' := ⟨fun pins s σ H v u Q I r w => h.run pins s σ H v u Q I r (q _ _ _ _ w)⟩

/-! ### what is walked -/
structure ItW (K : PySem.W.Frag) (H G : Hp) (as : List Ar) (e : En) (σ : L2.St) (pair : Bool) (J : L2.It) (ds : List PyData) (Gd : Hp → Prop) (Y : Nat → Hp → V → Hp → Prop) : Prop where
  walk : Walk J ds.length Gd Y
  stay : ∀ F1 H2 G2 F2 T2, (∀ i ∈ arSl as, ∀ x a, gt e i = some x → x.1 = .o ∨ x.1 = .l → σ[i]? = some (some (.ref a)) → ¬ F1 a) → Stp H G F1 H2 G2 F2 T2 → Same G2 H2 → Gd H2
  yld : ∀ i H2 v H3, i < ds.length → Y i H2 v H3 → (H3 = H2 ∧ ∃ d, ds[i]? = some d ∧ Fz K G v d) ∨
    (pair = true ∧ ∃ T x y d1 d2, v = .ref T ∧ H2 T = none ∧ H3 = upd H2 T (.tup [x, y]) ∧ ds[i]? = some (.tuple [d1, d2]) ∧ Fz K G x d1 ∧ Fz K G y d2)
def rdI (K : PySem.W.Frag) (EK : EKT) (W : WX) (cl : Cl) (it : Ev.It) (pair : Bool) : TI := fun σ H R => ∃ e G F P, Env1 K P H G F e σ ∧ match itRun it cl e with
  | .ok p => ∀ (J : L2.It) H' G' F' Gd Y, Env1 K P H' G' F' p.1 σ → Stp H G F H' G' F' NoA → ItW K H' G' it.as p.1 σ pair J p.2 Gd Y → R J H'
  | .ex n d e' => WEx K EK W P H G F σ n d e'
  | .no => False
theorem PI.imp {tg it : Expr} {t t' : TI} (h : PI X tg it t) (q : ∀ σ H R, t' σ H R → t σ H R) : PI X tg it t' := ⟨fun pins s σ H R I w => h.run pins s σ H R I (q _ _ _ w)⟩
theorem PI.or {tg it : Expr} {t t' : TI} (h : PI X tg it t) (h' : PI X tg it t') : PI X tg it (fun σ H R => t σ H R ∨ t' σ H R) := ⟨fun pins s σ H R I w => w.elim (h.run pins s σ H R I) (h'.run pins s σ H R I)⟩
theorem Stp.growH {H2 H3 G2 : Hp} {F2 T2 : Addr → Prop} (s : Stp H G F H2 G2 F2 T2) (h : Same H2 H3) : Stp H G F H3 G2 F2 T2 :=
  ⟨s.sg, fun a o nf q => h a o (s.fr a o nf q), s.gd, s.fd, s.dj, s.tg, fun a z => by
    cases q : H2 a with
    | none => exact absurd q (s.tl a z)
    | some o => rw [h a o q]; simp⟩
/-- slots forgotten, the names as they stand -/
theorem Env1.forgetE {i : Nat} (en : Env1 K P H G F e σ) : Env1 K P H G F (st e i none) σ := by
  obtain ⟨fp, h1, h2, h3⟩ := en.fp
  refine ⟨en.pv, en.sub, en.dis, en.lv, by rw [st_len]; exact en.len, fp, fun j x hx => ?_, h2, h3⟩
  by_cases hj : i = j
  · subst hj
    by_cases hi : i < e.length
    · rw [gt_st_same hi] at hx; cases hx
    · have hl := gt_lt hx
      rw [st_len] at hl
      exact absurd hl hi
  · rw [gt_st_ne hj] at hx
    exact h1 j x hx
theorem Env1.wipeE : ∀ (own : List Nat) {e : En}, Env1 K P H G F e σ → Env1 K P H G F (wipeE own e) σ
  | [], _, en => en
  | i :: r, _, en => (Env1.wipeE r en).forgetE
theorem wipe_at : ∀ (own : List Nat) (σ : L2.St) (j : Nat), (wipe σ own)[j]? = if j ∈ own ∧ j < σ.length then some none else σ[j]?
  | [], σ, j => by simp [wipe]
  | i :: r, σ, j => by
    show ((wipe σ r).set i none)[j]? = _
    by_cases hj : i = j
    · subst hj
      by_cases hi : i < σ.length
      · rw [List.getElem?_set_self (by rw [wipe_length]; exact hi), if_pos ⟨List.mem_cons_self .., hi⟩]
      · rw [if_neg fun z => hi z.2, List.getElem?_eq_none (by rw [List.length_set, wipe_length]; omega), List.getElem?_eq_none (by omega)]
    · rw [List.getElem?_set_ne hj, wipe_at r σ j]
      by_cases hr : j ∈ r ∧ j < σ.length
      · rw [if_pos hr, if_pos ⟨List.mem_cons_of_mem _ hr.1, hr.2⟩]
      · rw [if_neg hr, if_neg fun z => hr ⟨(List.mem_cons.mp z.1).elim (fun w => absurd w.symm hj) id, z.2⟩]
theorem wipe_eq {own : List Nat} (hl : σ'.length = σ.length) (h : ∀ j, j ∉ own → σ'[j]? = (wipe σ own)[j]?) : wipe σ' own = wipe σ own := by
  refine List.ext_getElem? fun j => ?_
  rw [wipe_at, wipe_at]
  by_cases hj : j ∈ own
  · by_cases hl2 : j < σ.length
    · rw [if_pos ⟨hj, by omega⟩, if_pos ⟨hj, hl2⟩]
    · rw [if_neg fun z => hl2 (by omega), if_neg fun z => hl2 z.2, List.getElem?_eq_none (by omega), List.getElem?_eq_none (by omega)]
  · rw [if_neg fun z => hj z.1, if_neg fun z => hj z.1, h j hj, wipe_at, if_neg fun z => hj z.1]
/-- the block's own slots as they were -/
theorem gt_wipeE : ∀ (own : List Nat) (e : En) (j : Nat), gt (wipeE own e) j = if j ∈ own ∧ j < e.length then none else gt e j
  | [], e, j => by simp [wipeE]
  | i :: r, e, j => by
    show gt (st (wipeE r e) i none) j = _
    have hl : (wipeE r e).length = e.length := by
      clear j
      induction r with
      | nil => rfl
      | cons k r ih => show (st (wipeE r e) k none).length = _; rw [st_len, ih]
    rw [gt_st, hl, gt_wipeE r e j]
    by_cases hj : i = j
    · subst hj
      by_cases hi : i < e.length
      · rw [if_pos ⟨rfl, hi⟩, if_pos ⟨List.mem_cons_self .., hi⟩]
      · rw [if_neg fun z => hi z.2, if_neg fun z => hi z.2, if_neg fun z => hi z.2]
    · rw [if_neg fun z => hj z.1]
      by_cases hr : j ∈ r ∧ j < e.length
      · rw [if_pos hr, if_pos ⟨List.mem_cons_of_mem _ hr.1, hr.2⟩]
      · rw [if_neg hr, if_neg fun z => hr ⟨(List.mem_cons.mp z.1).elim (fun w => absurd w.symm hj) id, z.2⟩]
theorem gt_backE : ∀ (own : List Nat) (e0 e : En) (j : Nat), gt (backE own e0 e) j = if j ∈ own ∧ j < e.length then gt e0 j else gt e j
  | [], e0, e, j => by simp [backE]
  | i :: r, e0, e, j => by
    show gt (st (backE r e0 e) i (gt e0 i)) j = _
    have hl : (backE r e0 e).length = e.length := by
      clear j
      induction r with
      | nil => rfl
      | cons k r ih => show (st (backE r e0 e) k (gt e0 k)).length = _; rw [st_len, ih]
    rw [gt_st, hl, gt_backE r e0 e j]
    by_cases hj : i = j
    · subst hj
      by_cases hi : i < e.length
      · rw [if_pos ⟨rfl, hi⟩, if_pos ⟨List.mem_cons_self .., hi⟩]
      · rw [if_neg fun z => hi z.2, if_neg fun z => hi z.2, if_neg fun z => hi z.2]
    · rw [if_neg fun z => hj z.1]
      by_cases hr : j ∈ r ∧ j < e.length
      · rw [if_pos hr, if_pos ⟨List.mem_cons_of_mem _ hr.1, hr.2⟩]
      · rw [if_neg hr, if_neg fun z => hr ⟨(List.mem_cons.mp z.1).elim (fun w => absurd w.symm hj) id, z.2⟩]
theorem backE_len : ∀ (own : List Nat) (e0 e : En), (backE own e0 e).length = e.length
  | [], _, _ => rfl
  | k :: r, e0, e => by show (st (backE r e0 e) k (gt e0 k)).length = _; rw [st_len, backE_len r e0 e]
theorem ownFz_at : ∀ {own : List Nat} {e : En} {j : Nat} {x : Vl}, ownFz own e = true → j ∈ own → gt e j = some x → x.1 = .f
  | i :: r, e, j, x, h, hj, g => by
    have h0 : ((match gt e i with
      | none => true
      | some (.f, _) => true
      | _ => false) && ownFz r e) = true := h
    rw [Bool.and_eq_true] at h0
    rcases List.mem_cons.mp hj with rfl | hj
    · rw [g] at h0
      obtain ⟨ow, d⟩ := x
      cases ow with
      | f => rfl
      | _ => exact absurd h0.1 (by simp)
    · exact ownFz_at h0.2 hj g
theorem Env1.back {own : List Nat} {H2 G2 : Hp} {F2 T2 : Addr → Prop} {e2 : En} (en : Env1 K P H G F e σ) (ho : ownFz own e = true) (s : Stp H G F H2 G2 F2 T2) (x2 : Env1 K P H2 G2 F2 (Ev.wipeE own e2) (L2.wipe σ own)) (hl : e2.length = e.length) : Env1 K P H2 G2 F2 (backE own e e2) σ := by
  obtain ⟨fp, h1, h2, h3⟩ := x2.fp
  obtain ⟨fp0, g1, _, _⟩ := en.fp
  refine ⟨x2.pv, x2.sub, x2.dis, x2.lv, by rw [backE_len, hl]; exact en.len, fp, fun j x hx => ?_, h2, h3⟩
  rw [gt_backE] at hx
  by_cases hj : j ∈ own
  · by_cases hlt : j < e2.length
    · rw [if_pos ⟨hj, hlt⟩] at hx
      obtain ⟨v, hv, ro⟩ := g1 j x hx
      have hf := ownFz_at ho hj hx
      obtain ⟨ow, d⟩ := x
      cases hf
      exact ⟨v, hv, Fz.mono s.sg ro⟩
    · rw [if_neg fun z => hlt z.2] at hx
      exact absurd (gt_lt hx) hlt
  · rw [if_neg fun z => hj z.1] at hx
    obtain ⟨v, hv, ro⟩ := h1 j x (by rw [gt_wipeE, if_neg fun z => hj z.1]; exact hx)
    refine ⟨v, ?_, ro⟩
    rw [wipe_at, if_neg fun z => hj z.1] at hv
    exact hv
/-- an object of ours that no slot knows is written -/
theorem Env1.updD {D : Addr} {o : HO} (en : Env1 K P H G F e σ) (nf : ¬ F D) (ng : G D = none) (np : ¬ ∃ i, P i D) : Env1 K P (upd H D o) G F e σ := by
  obtain ⟨fp, h1, h2, h3⟩ := en.fp
  have ne : ∀ a, F a → a ≠ D := fun a z w => nf (w ▸ z)
  have nP : ∀ i a, P i a → a ≠ D := fun i a z w => np ⟨i, w ▸ z⟩
  refine ⟨fun a z => ⟨(en.pv a z).1, ?_, (en.pv a z).2.2⟩, fun a u q => ?_, en.dis, fun a z => by rw [upd_ne (ne a z)]; exact en.lv a z, en.len, fp, fun i x hx => ?_, h2, h3⟩
  · obtain ⟨i, z⟩ := z
    rw [upd_ne (nP i a z)]
    exact (en.pv a ⟨i, z⟩).2.1
  · by_cases hd : a = D
    · subst hd; rw [ng] at q; cases q
    · rw [upd_ne hd]; exact en.sub a u q
  · obtain ⟨v, hv, ro⟩ := h1 i x hx
    refine ⟨v, hv, ?_⟩
    obtain ⟨ow, d⟩ := x
    cases ow with
    | f => exact ro
    | l =>
      obtain ⟨a, xs, ds, w1, w2, w3, w4, w5⟩ := ro
      exact ⟨a, xs, ds, w1, w2, by rw [upd_ne (nP i a w5)]; exact w3, w4, w5⟩
    | o =>
      obtain ⟨a, xs, ds, w1, w2, w3, w4, w5⟩ := ro
      exact ⟨a, xs, ds, w1, w2, by rw [upd_ne (ne a (h2 i a w5))]; exact w3, w4, w5⟩
    | b =>
      obtain ⟨a, b, xs, ys, ds, es, w1, w2, w3, w4, w5, w6, w7, w8, w9⟩ := ro
      exact ⟨a, b, xs, ys, ds, es, w1, w2, by rw [upd_ne (ne a (h2 i a w7))]; exact w3, by rw [upd_ne (ne b (h2 i b w8))]; exact w4, w5, w6, w7, w8, w9⟩
abbrev W0 : WX := fun _ _ _ _ => False
/-- an item comes -/
theorem item_ok {H2 G2 H3 : Hp} {F2 T2 : Addr → Prop} {F1 : Addr → Prop} {tg : Tg} {pair : Bool} {v : V} {d : PyData} {e2 : En} {σ2 : L2.St} (hp : pair = true → isT tg = true) (s : Stp H G F1 H2 G2 F2 T2) (x : Env1 K P H2 G2 F2 e2 σ2)
    (y : (H3 = H2 ∧ Fz K G v d) ∨ (pair = true ∧ ∃ T x y d1 d2, v = .ref T ∧ H2 T = none ∧ H3 = upd H2 T (.tup [x, y]) ∧ d = .tuple [d1, d2] ∧ Fz K G x d1 ∧ Fz K G y d2)) :
    Env1 K P H3 G2 F2 e2 σ2 ∧ Stp H G F1 H3 G2 F2 T2 ∧ Same H2 H3 ∧ (Fz K G2 v d ∨ (isT tg = true ∧ PairV K H3 G2 v d)) := by
  rcases y with ⟨rfl, f⟩ | ⟨hpr, A, a, b, d1, d2, rfl, hA, rfl, rfl, f1, f2⟩
  · exact ⟨x, s, Same.refl _, .inl (f.mono s.sg)⟩
  · have sh : Same H2 (upd H2 A (.tup [a, b])) := upd_out hA
    refine ⟨x.grow sh (Same.refl _) (fun c u q => sh c u (x.sub c u q)) x.dis fun a z => (x.pv a z).2.2, s.growH sh, sh, .inr ⟨hp hpr, A, a, b, d1, d2, rfl, rfl, upd_same, f1.mono s.sg, f2.mono s.sg⟩⟩
end
end Ev
end

section
set_option Elab.async false
set_option linter.all false
set_option maxRecDepth 100000
set_option maxHeartbeats 1000000
/-! Comprehensions, statements, loops. -/
namespace Ev
open PySem PySem.Spec PyProof.Rows L2
section
variable {X : Cx} {K : PySem.W.Frag} {EK : EKT} {W : WX} {cl : Cl} {G G' H H' : Hp} {P P' : Nat → Addr → Prop} {F F' T T' : Addr → Prop} {e e' : En} {σ σ' : L2.St}
theorem wipeE_len (own : List Nat) (e : En) : (wipeE own e).length = e.length := by
  induction own with
  | nil => rfl
  | cons k r ih => show (st (wipeE r e) k none).length = _; rw [st_len, ih]
theorem drop_cons {α : Type} {l : List α} {i : Nat} {d : α} (h : l[i]? = some d) : l.drop i = d :: l.drop (i + 1) := by
  obtain ⟨hi, rfl⟩ := List.getElem?_eq_some_iff.mp h
  exact List.drop_eq_getElem_cons hi
theorem te_LC {it : Ev.It} {tg : Tg} {own : List Nat} {t : CT} {c : CE} {pair : Bool} {Q : VK} (hp : pair = true → isT tg = true) (ho : ∀ j ∈ tgSl tg, j ∈ own) (h : rdE K EK W cl (cLC it tg own t c) σ H Q) :
    tLc (rdI K EK W cl it pair) (rdG K tg) (rdT K EK W0 cl t) (rdE K EK W0 cl c) own σ H Q := by
  obtain ⟨e, G, F, P, x, h⟩ := h
  refine ⟨e, G, F, P, x, ?_⟩
  cases q : itRun it cl e with
  | ex n d e' =>
    simp only [cLC, q, R.bind] at h
    exact h
  | no => simp only [cLC, q, R.bind] at h
  | ok p =>
    obtain ⟨e0, ds⟩ := p
    simp only [cLC, q, R.bind] at h
    intro J H0 G0 F0 Gd Y x0 s0 iw D hD
    have x0 : Env1 K P H0 G0 F0 e0 σ := x0
    have iw : ItW K H0 G0 it.as e0 σ pair J ds Gd Y := iw
    cases ql : lockL it.as e0 with
    | none => simp only [ql] at h
    | some e1 =>
      simp only [ql] at h
      by_cases hc : ds.length ≤ sizeLine ∧ ownFz own e1 = true
      · rw [if_pos hc] at h
        generalize hR : lcL tg own t c cl ds e1 [] = RR at h
        obtain ⟨P1, F1, x1, l0, l1, l2, l3, l4⟩ := lock_ok x0 ql
        have pD : ¬ ∃ i, P1 i D := fun z => (x1.pv D z).2.1 hD
        have gD : G0 D = none := x0.sub.free hD
        have fD : ¬ F1 D := fun z => x1.lv D z hD
        have sh : Same H0 (upd H0 D (.lst [])) := upd_out hD
        have st0 : Stp H0 G0 F1 (upd H0 D (.lst [])) G0 F1 (fun a => a = D) :=
          ⟨Same.refl _, fun a o _ q => sh a o q, fun a q => .inl q, fun a q => q.elim .inl fun z => .inr (z ▸ hD), fun a z w => fD (w ▸ z), fun a z => z ▸ gD, fun a z => by rw [z, upd_same]; simp⟩
        have xw : Env1 K P1 (upd H0 D (.lst [])) G0 F1 e1 σ := x1.updD fD gD pD
        have e1l : e1.length = σ.length := x1.len
        refine lc_it iw.walk (fun i H2 => ∃ ei acc accV Gi Fi, lcL tg own t c cl (ds.drop i) ei acc = RR ∧ Env1 K P1 H2 Gi Fi (wipeE own ei) (L2.wipe σ own) ∧ ei.length = e1.length ∧ H2 D = some (.lst accV) ∧ FzA K Gi accV acc ∧ acc.length ≤ i ∧
          Stp H0 G0 F1 H2 Gi Fi (fun a => a = D)) ?_ ?_ ?_ ?_
        · exact ⟨e1, [], [], G0, F1, hR, xw.wipe own, rfl, upd_same, .nil, Nat.le_refl _, st0⟩
        · rintro i H2 hi ⟨ei, acc, accV, Gi, Fi, _, xi, _, _, _, _, si⟩
          exact iw.stay F1 H2 Gi Fi _ l0 si xi.sub
        · rintro i v H2 H3 hi ⟨ei, acc, accV, Gi, Fi, hr, xi, eil, hDi, hz, hl, si⟩ y
          have hy := iw.yld i H2 v H3 hi y
          obtain ⟨d, hd⟩ : ∃ d, ds[i]? = some d := ⟨ds[i], by simp [hi]⟩
          have hy2 : (H3 = H2 ∧ Fz K G0 v d) ∨ (pair = true ∧ ∃ T x y d1 d2, v = .ref T ∧ H2 T = none ∧ H3 = upd H2 T (.tup [x, y]) ∧ d = .tuple [d1, d2] ∧ Fz K G0 x d1 ∧ Fz K G0 y d2) := by
            rcases hy with ⟨a, d', b, f⟩ | ⟨a, T, x, y, d1, d2, b1, b2, b3, b4, b5⟩
            · rw [hd] at b; cases b; exact .inl ⟨a, f⟩
            · rw [hd] at b4; cases b4; exact .inr ⟨a, T, x, y, d1, d2, b1, b2, b3, rfl, b5⟩
          obtain ⟨x3, s3, sh3, r3⟩ := item_ok hp si xi hy2
          have hD3 : H3 D = some (.lst accV) := sh3 _ _ hDi
          rw [drop_cons hd] at hr
          refine ⟨wipeE own ei, Gi, Fi, P1, d, x3, r3, ?_⟩
          have hr0 : (match tgSet tg d (wipeE own ei) with
            | some e1 => (t cl e1).bind fun p => match p.2 with
              | true => (c cl p.1).bind fun q => lcL tg own t c cl (ds.drop (i + 1)) q.1 (acc ++ [q.2.2])
              | false => lcL tg own t c cl (ds.drop (i + 1)) p.1 acc
            | none => .no) = RR := hr
          cases q1 : tgSet tg d (wipeE own ei) with
          | none =>
            simp only [q1] at hr0
            rw [← hr0] at h
            exact h
          | some e2 =>
            simp only [q1] at hr0
            intro σ2 x4 hl4 k4
            have hw : L2.wipe σ2 own = L2.wipe (L2.wipe σ own) own := wipe_eq (by rw [hl4]) fun j hj =>
              (k4 j fun z => hj (ho j z)).trans (by rw [wipe_at own (L2.wipe σ own) j, if_neg fun z => hj z.1])
            have hww : L2.wipe (L2.wipe σ own) own = L2.wipe σ own := wipe_eq (by rw [wipe_length]) fun j hj => rfl
            refine ⟨hw.trans (by rw [hww]), ?_⟩
            refine ⟨e2, Gi, Fi, P1, x4, ?_⟩
            cases q2 : t cl e2 with
            | ex n d' e' =>
              simp only [q2, R.bind] at hr0
              rw [← hr0] at h
              exact h.elim
            | no =>
              simp only [q2, R.bind] at hr0
              rw [← hr0] at h
              exact h
            | ok p =>
              obtain ⟨p1, b⟩ := p
              simp only [q2, R.bind] at hr0
              intro H4 G4 F4 x5 s5
              have s45 := s3.trans s5
              have hD4 : H4 D = some (.lst accV) := s5.fr D _ (fun z => s3.dj D z rfl) hD3
              -- the turn's end
              have fin : ∀ {H5 G5 F5 ef acc' accV'}, lcL tg own t c cl (ds.drop (i + 1)) ef acc' = RR → Env1 K P1 H5 G5 F5 ef σ2 → H5 D = some (.lst accV') → FzA K G5 accV' acc' → acc'.length ≤ i + 1 → Stp H0 G0 F1 H5 G5 F5 (fun a => a = D) →
                  ∃ ei acc accV Gi Fi, lcL tg own t c cl (ds.drop (i + 1)) ei acc = RR ∧ Env1 K P1 H5 Gi Fi (wipeE own ei) (L2.wipe σ own) ∧ ei.length = e1.length ∧ H5 D = some (.lst accV) ∧ FzA K Gi accV acc ∧ acc.length ≤ i + 1 ∧ Stp H0 G0 F1 H5 Gi Fi (fun a => a = D) := fun {H5 G5 F5 ef acc' accV'} a1 a2 a3 a4 a5 a6 => by
                refine ⟨ef, acc', accV', G5, F5, a1, ?_, ?_, a3, a4, a5, a6⟩
                · have z := a2.wipe own
                  rw [hw, hww] at z
                  exact z
                · have := a2.len
                  rw [this, hl4, wipe_length, e1l]
              cases b with
              | false =>
                rw [if_neg Bool.false_ne_true]
                exact fin hr0 x5 hD4 (hz.mono s5.sg) (Nat.le_succ_of_le hl) (s45.sub fun a z => .inl z)
              | true =>
                rw [if_pos rfl]
                refine ⟨p1, G4, F4, P1, x5, ?_⟩
                simp only at hr0
                cases q3 : c cl p1 with
                | ex n d' e' =>
                  simp only [q3] at hr0
                  rw [← hr0] at h
                  exact h.elim
                | no =>
                  simp only [q3] at hr0
                  rw [← hr0] at h
                  exact h
                | ok r =>
                  obtain ⟨r1, ow, dr⟩ := r
                  simp only [q3] at hr0
                  intro y5 H5 G5 F5 T5 x6 ro6 s6
                  have dD : ¬ F4 D := fun z => s45.dj D z (.inl rfl)
                  have hD5 : H5 D = some (.lst accV) := s6.fr D _ dD hD4
                  have sAll := (s45.sub (T' := fun a => a = D) fun a z => .inl z).trans s6
                  obtain ⟨G6, x7, s7, f7⟩ := frozen1 x5 x6 ro6 s6
                  have sAll2 := (s45.sub (T' := fun a => a = D) fun a z => .inl z).trans s7
                  have fD6 : ¬ F5 D := fun z => sAll2.dj D z (.inl rfl)
                  have gD6 : G6 D = none := sAll2.tg D (.inl rfl)
                  refine ⟨accV, hD5, ?_, ?_⟩
                  · have := hz.len
                    omega
                  · refine fin hr0 (x7.updD fD6 gD6 pD) upd_same ((hz.mono (s5.sg.trans s7.sg)).append (.cons f7 .nil)) (by rw [List.length_append]; simp; omega) ?_
                    refine ⟨sAll2.sg, fun a o nf q => ?_, sAll2.gd, fun a z => sAll2.fd a (z.imp_right .inl), fun a z w => sAll2.dj a z (.inl w), fun a z => sAll2.tg a (.inl z), fun a z => by rw [z, upd_same]; simp⟩
                    have na : a ≠ D := fun z => by rw [z, hD] at q; cases q
                    rw [upd_ne na]
                    exact sAll2.fr a o nf q
        · rintro H2 ⟨ei, acc, accV, Gi, Fi, hr, xi, eil, hDi, hz, hl, si⟩
          rw [List.drop_length] at hr
          have hr0 : R.ok (ei, acc) = RR := hr
          rw [← hr0] at h
          simp only at h
          cases qu : unlockL it.as e0 (backE own e1 ei) with
          | none => simp only [qu] at h
          | some e3 =>
            simp only [qu] at h
            have xb : Env1 K P1 H2 Gi Fi (backE own e1 ei) σ := x1.back hc.2 si xi eil
            obtain ⟨F3, x9, s9⟩ := l4 H2 Gi Fi _ _ e3 σ xb si (fun _ _ => rfl) qu
            exact h (.ref D) H2 Gi F3 (fun a => a = D) x9 ⟨D, accV, acc, rfl, rfl, hDi, hz, rfl⟩ (s0.trans0 s9)
      · rw [if_neg hc] at h
        exact h.elim
end
end Ev
end

section
set_option Elab.async false
set_option linter.all false
set_option maxRecDepth 100000
set_option maxHeartbeats 1000000
/-! Statements, loops. -/
namespace Ev
open PySem PySem.Spec PyProof.Rows L2
section
variable {X : Cx} {K : PySem.W.Frag} {EK : EKT} {W : WX} {cl : Cl} {G G' H H' : Hp} {P P' : Nat → Addr → Prop} {F F' T T' : Addr → Prop} {e e' : En} {σ σ' : L2.St} {Pr : List Nat} {D : Ends}
/-- the protected slots are as they were -/
def Keep (Pr : List Nat) (σ σ' : L2.St) : Prop := ∀ i ∈ Pr, σ'[i]? = σ[i]?
theorem Keep.refl : Keep Pr σ σ := fun _ _ => rfl
theorem Keep.trans {σ1 σ2 : L2.St} (a : Keep Pr σ σ1) (b : Keep Pr σ1 σ2) : Keep Pr σ σ2 := fun i hi => (b i hi).trans (a i hi)
def WExS (K : PySem.W.Frag) (EK : EKT) (W : WX) (Pr : List Nat) (P : Nat → Addr → Prop) (H G : Hp) (F : Addr → Prop) (σ : L2.St) (n : Str) (d : PyData) (e' : En) : Prop :=
  ∀ σ' H' G' F' cls od, Env1 K P H' G' F' e' σ' → Stp H G F H' G' F' NoA → Keep Pr σ σ' → EK H' G' n d cls od → W cls od σ' H'
theorem WExS.ex {n : Str} {d : PyData} (w : WExS K EK W Pr P H G F σ n d e') : WEx K EK W P H G F σ n d e' := fun H' G' F' cls od x s k => w σ H' G' F' cls od x s Keep.refl k
def EndS (K : PySem.W.Frag) (EK : EKT) (W : WX) (Pr : List Nat) (P : Nat → Addr → Prop) (D : Ends) (H G : Hp) (F : Addr → Prop) (σ : L2.St) : R (En × Fl) → Prop
  | .ok (e', .nx) => ∀ σ' H' G' F', Env1 K P H' G' F' e' σ' → Stp H G F H' G' F' NoA → Keep Pr σ σ' → D.nx σ' H'
  | .ok (e', .bk) => ∀ σ' H' G' F', Env1 K P H' G' F' e' σ' → Stp H G F H' G' F' NoA → Keep Pr σ σ' → D.bk σ' H'
  | .ok (e', .ct) => ∀ σ' H' G' F', Env1 K P H' G' F' e' σ' → Stp H G F H' G' F' NoA → Keep Pr σ σ' → D.ct σ' H'
  | .ok (e', .rt x) => ∀ v σ' H' G' F' T, Env1 K P H' G' F' e' σ' → Rv K H' G' x.1 v x.2 T → Stp H G F H' G' F' T → Keep Pr σ σ' → D.rt v H'
  | .ex n d e' => WExS K EK W Pr P H G F σ n d e'
  | .no => False
theorem EndS.back {r : R (En × Fl)} {H1 G1 : Hp} {F1 T1 : Addr → Prop} {σ1 : L2.St} (h : EndS K EK W Pr P D H G F σ r) (s : Stp H G F H1 G1 F1 T1) (k : Keep Pr σ σ1) : EndS K EK W Pr P D H1 G1 F1 σ1 r := by
  cases r with
  | no => exact h
  | ex n d e' => exact fun σ' H' G' F' cls od x t k' ek => h σ' H' G' F' cls od x (s.trans0 t) (k.trans k') ek
  | ok p =>
    obtain ⟨e', fl⟩ := p
    cases fl with
    | nx => exact fun σ' H' G' F' x t k' => h σ' H' G' F' x (s.trans0 t) (k.trans k')
    | bk => exact fun σ' H' G' F' x t k' => h σ' H' G' F' x (s.trans0 t) (k.trans k')
    | ct => exact fun σ' H' G' F' x t k' => h σ' H' G' F' x (s.trans0 t) (k.trans k')
    | rt y => exact fun v σ' H' G' F' T x r t k' => h v σ' H' G' F' T x r (s.trans0 t) (k.trans k')
def rdS (K : PySem.W.Frag) (EK : EKT) (W : WX) (cl : Cl) (Pr : List Nat) (c : CS) : TS := fun D σ H => ∃ e G F P, Env1 K P H G F e σ ∧ EndS K EK W Pr P D H G F σ (c cl e)
theorem ts_nx (h : rdS K EK W cl Pr cNx D σ H) : tNext D σ H := by
  obtain ⟨e, G, F, P, x, h⟩ := h
  exact h σ H G F x .refl Keep.refl
theorem ts_bk (h : rdS K EK W cl Pr cBk D σ H) : tBreak D σ H := by
  obtain ⟨e, G, F, P, x, h⟩ := h
  exact h σ H G F x .refl Keep.refl
theorem ts_ct (h : rdS K EK W cl Pr cCt D σ H) : tCont D σ H := by
  obtain ⟨e, G, F, P, x, h⟩ := h
  exact h σ H G F x .refl Keep.refl
theorem ts_sq {a b : CS} (h : rdS K EK W cl Pr (cSq a b) D σ H) : tSeq (rdS K EK W cl Pr a) (rdS K EK W cl Pr b) D σ H := by
  obtain ⟨e, G, F, P, x, h⟩ := h
  refine ⟨e, G, F, P, x, ?_⟩
  cases q : a cl e with
  | no => simp only [cSq, q, R.bind] at h; exact h
  | ex n d e' => simp only [cSq, q, R.bind] at h; exact h
  | ok p =>
    obtain ⟨e1, fl⟩ := p
    simp only [cSq, q, R.bind] at h
    cases fl with
    | nx => exact fun σ' H' G' F' x' s k => ⟨e1, G', F', P, x', EndS.back h s k⟩
    | bk => exact h
    | ct => exact h
    | rt v => exact h
theorem ts_do {c : CE} (h : rdS K EK W cl Pr (cDo c) D σ H) : tDrop (rdE K EK W cl c) D σ H := by
  obtain ⟨e, G, F, P, x, h⟩ := h
  refine ⟨e, G, F, P, x, ?_⟩
  cases q : c cl e with
  | no => simp only [cDo, q, R.bind] at h; exact h
  | ex n d e' => simp only [cDo, q, R.bind] at h; exact WExS.ex h
  | ok p =>
    simp only [cDo, q, R.bind] at h
    exact fun v H' G' F' T x' r s => h σ H' G' F' x' s.drop Keep.refl
theorem ts_ret {c : CE} (h : rdS K EK W cl Pr (cRet c) D σ H) : tRet (rdE K EK W cl c) D σ H := by
  obtain ⟨e, G, F, P, x, h⟩ := h
  refine ⟨e, G, F, P, x, ?_⟩
  cases q : c cl e with
  | no => simp only [cRet, q, R.bind] at h; exact h
  | ex n d e' => simp only [cRet, q, R.bind] at h; exact WExS.ex h
  | ok p =>
    simp only [cRet, q, R.bind] at h
    exact fun v H' G' F' T x' r s => h v σ H' G' F' T x' r s Keep.refl
/-- a slot's value is taken -/
theorem Env1.take {i : Nat} {x : Vl} (en : Env1 K P H G F e σ) (h : gt e i = some x) (hl : x.1 ≠ .l) : ∃ v T F', σ[i]? = some (some v) ∧ Rv K H G x.1 v x.2 T ∧ Env1 K P H G F' (st e i none) σ ∧ Stp H G F H G F' T := by
  obtain ⟨fp, h1, h2, h3⟩ := en.fp
  obtain ⟨v, hv, ro⟩ := h1 i x h
  have rv : Rv K H G x.1 v x.2 (fp i) := by
    obtain ⟨ow, d⟩ := x
    cases ow with
    | l => exact absurd rfl hl
    | f => exact ro
    | o => exact ro
    | b => exact ro
  refine ⟨v, fp i, fun a => F a ∧ ¬ fp i a, hv, rv, ⟨fun a z => ⟨fun w => (en.pv a z).1 w.1, (en.pv a z).2⟩, en.sub, fun a z => en.dis a z.1, fun a z => en.lv a z.1, by rw [st_len]; exact en.len, ⟨fun j a => fp j a ∧ j ≠ i, fun j y hy => ?_, fun j a z => ⟨h2 j a z.1, fun w => z.2 (h3 j i a z.1 w)⟩, fun j k a z w => h3 j k a z.1 w.1⟩⟩,
    Same.refl _, fun a o _ q => q, fun a q => .inl q, fun a q => .inl (q.elim And.left fun z => h2 i a z), fun a z w => z.2 w, fun a z => en.dis a (h2 i a z), fun a z => en.lv a (h2 i a z)⟩
  by_cases hj : i = j
  · subst hj
    rw [gt_st_same (gt_lt h)] at hy
    cases hy
  · rw [gt_st_ne hj] at hy
    obtain ⟨u, hu, r⟩ := h1 j y hy
    refine ⟨u, hu, ?_⟩
    obtain ⟨ow, d⟩ := y
    cases ow with
    | f => exact r
    | l => exact r
    | o =>
      obtain ⟨a, xs, ds, q1, q2, q3, q4, q5⟩ := r
      exact ⟨a, xs, ds, q1, q2, q3, q4, q5, fun z => hj z.symm⟩
    | b =>
      obtain ⟨a, b, xs, ys, ds, es, q1, q2, q3, q4, q5, q6, q7, q8, q9⟩ := r
      exact ⟨a, b, xs, ys, ds, es, q1, q2, q3, q4, q5, q6, ⟨q7, fun z => hj z.symm⟩, ⟨q8, fun z => hj z.symm⟩, q9⟩
theorem ts_mov {i : Nat} (h : rdS K EK W cl Pr (cMov i) D σ H) : tRet (tVar i) D σ H := by
  obtain ⟨e, G, F, P, x, h⟩ := h
  have h0 : EndS K EK W Pr P D H G F σ (match gt e i with
    | some (.l, _) => .no
    | some x => .ok (st e i none, .rt x)
    | none => .no) := h
  cases g : gt e i with
  | none => rw [g] at h0; exact h0.elim
  | some y =>
    have go : y.1 ≠ .l → EndS K EK W Pr P D H G F σ (.ok (st e i none, .rt y)) → tRet (tVar i) D σ H := fun hl h => by
      obtain ⟨v, T, F', hv, rv, x', s⟩ := x.take g hl
      exact ⟨v, hv, h v σ H G F' T x' rv s Keep.refl⟩
    obtain ⟨ow, d⟩ := y
    rw [g] at h0
    cases ow with
    | l => exact h0.elim
    | f => exact go (by simp) h0
    | o => exact go (by simp) h0
    | b => exact go (by simp) h0
theorem ts_if {t : CT} {a b : CS} (h : rdS K EK W cl Pr (cIf t a b) D σ H) : tIfS (rdT K EK W cl t) (rdS K EK W cl Pr a) (rdS K EK W cl Pr b) D σ H := by
  obtain ⟨e, G, F, P, x, h⟩ := h
  refine ⟨e, G, F, P, x, ?_⟩
  cases q : t cl e with
  | no => simp only [cIf, q, R.bind] at h; exact h
  | ex n d e' => simp only [cIf, q, R.bind] at h; exact WExS.ex h
  | ok p =>
    obtain ⟨e1, c⟩ := p
    simp only [cIf, q, R.bind] at h
    intro H1 G1 F1 x1 s1
    cases c with
    | true => exact ⟨e1, G1, F1, P, x1, EndS.back h s1 Keep.refl⟩
    | false => exact ⟨e1, G1, F1, P, x1, EndS.back h s1 Keep.refl⟩
theorem asgN_some {i : Nat} {x : Vl} {e1 : En} (h : asgN i x e = some e1) : e1 = st e i (some x) := by
  unfold asgN at h
  cases g : gt e i with
  | none => rw [g] at h; cases h; rfl
  | some y =>
    obtain ⟨ow, d⟩ := y
    rw [g] at h
    cases ow with
    | l => cases h
    | f => cases h; rfl
    | o => cases h; rfl
    | b => cases h; rfl
theorem keep_set {i : Nat} {v : Option V} (hi : i ∉ Pr) : Keep Pr σ (σ.set i v) := fun j hj => List.getElem?_set_ne fun (z : i = j) => hi (by rw [z]; exact hj)
theorem ts_asg {i : Nat} {c : CE} (hi : i ∉ Pr) (h : rdS K EK W cl Pr (cAsg i c) D σ H) : tAsg (rdE K EK W cl c) (gName i) D σ H := by
  obtain ⟨e, G, F, P, x, h⟩ := h
  refine ⟨e, G, F, P, x, ?_⟩
  cases q : c cl e with
  | no => simp only [cAsg, q, R.bind] at h; exact h
  | ex n d e' => simp only [cAsg, q, R.bind] at h; exact WExS.ex h
  | ok p =>
    simp only [cAsg, q, R.bind] at h
    intro v H1 G1 F1 T1 x1 r s1
    cases qa : asgN i p.2 p.1 with
    | none => simp only [qa] at h; exact h.elim
    | some e2 =>
      simp only [qa] at h
      have he := asgN_some qa
      subst he
      obtain ⟨x2, s2⟩ := x.putS x1 r s1
      exact h _ H1 G1 _ x2 s2 (keep_set hi)
theorem ts_unp {tg : Tg} {c : CE} (hi : ∀ j ∈ tgSl tg, j ∉ Pr) (h : rdS K EK W cl Pr (cUnp tg c) D σ H) : tAsg (rdE K EK W cl c) (rdG K tg) D σ H := by
  obtain ⟨e, G, F, P, x, h⟩ := h
  refine ⟨e, G, F, P, x, ?_⟩
  cases q : c cl e with
  | no => simp only [cUnp, q, R.bind] at h; exact h
  | ex n d e' => simp only [cUnp, q, R.bind] at h; exact WExS.ex h
  | ok p =>
    simp only [cUnp, q, R.bind] at h
    intro v H1 G1 F1 T1 x1 r s1
    obtain ⟨G2, x2, s2, fz⟩ := frozen1 x x1 r s1
    refine ⟨p.1, G2, F1, P, p.2.2, x2, .inl fz, ?_⟩
    cases qa : tgSet tg p.2.2 p.1 with
    | none => simp only [qa] at h; exact h.elim
    | some e2 =>
      simp only [qa] at h
      exact fun σ2 x3 _ k => h σ2 H1 G2 F1 x3 s2 fun j hj => k j fun z => hi j z hj
/-! ### for -/
theorem ts_for {it : Ev.It} {tg : Tg} {body : CS} {pair : Bool} {Pb : List Nat} (hp : pair = true → isT tg = true) (hPb : ∀ j, j ∈ Pr ∨ j ∈ arSl it.as → j ∈ Pb) (ht : ∀ j ∈ tgSl tg, j ∉ Pb) (h : rdS K EK W0 cl Pr (cFor it tg body) D σ H) :
    tFor (rdI K EK W0 cl it pair) (rdG K tg) (rdS K EK W0 cl Pb body) D σ H := by
  obtain ⟨e, G, F, P, x, h⟩ := h
  refine ⟨e, G, F, P, x, ?_⟩
  cases q : itRun it cl e with
  | ex n d e' => simp only [cFor, q, R.bind] at h; exact WExS.ex h
  | no => simp only [cFor, q, R.bind] at h; exact h
  | ok p =>
    obtain ⟨e0, ds⟩ := p
    simp only [cFor, q, R.bind] at h
    intro J H0 G0 F0 Gd Y x0 s0 iw
    have x0 : Env1 K P H0 G0 F0 e0 σ := x0
    have iw : ItW K H0 G0 it.as e0 σ pair J ds Gd Y := iw
    cases ql : lockL it.as e0 with
    | none => simp only [ql] at h; exact h.elim
    | some e1 =>
      simp only [ql] at h
      generalize hR : forL tg body cl ds e1 = RR at h
      obtain ⟨P1, F1, x1, l0, l1, l2, l3, l4⟩ := lock_ok x0 ql
      have kp : ∀ {σ2}, Keep Pb σ σ2 → Keep Pr σ σ2 := fun k j hj => k j (hPb j (.inl hj))
      have ks : ∀ {σ2}, Keep Pb σ σ2 → ∀ i ∈ arSl it.as, σ2[i]? = σ[i]? := fun k j hj => k j (hPb j (.inr hj))
      refine for_it iw.walk (fun i σ2 H2 => ∃ ei Gi Fi, forL tg body cl (ds.drop i) ei = RR ∧ Env1 K P1 H2 Gi Fi ei σ2 ∧ Stp H0 G0 F1 H2 Gi Fi NoA ∧ Keep Pb σ σ2) ?_ ?_ ?_ ?_
      · exact ⟨e1, G0, F1, hR, x1, .refl, Keep.refl⟩
      · rintro i σ2 H2 hi ⟨ei, Gi, Fi, _, xi, si, ki⟩
        refine iw.stay F1 H2 Gi Fi _ l0 si xi.sub
      · rintro i v σ2 H2 H3 hi ⟨ei, Gi, Fi, hr, xi, si, ki⟩ y
        have hy := iw.yld i H2 v H3 hi y
        obtain ⟨d, hd⟩ : ∃ d, ds[i]? = some d := ⟨ds[i], by simp [hi]⟩
        have hy2 : (H3 = H2 ∧ Fz K G0 v d) ∨ (pair = true ∧ ∃ T x y d1 d2, v = .ref T ∧ H2 T = none ∧ H3 = upd H2 T (.tup [x, y]) ∧ d = .tuple [d1, d2] ∧ Fz K G0 x d1 ∧ Fz K G0 y d2) := by
          rcases hy with ⟨a, d', b, f⟩ | ⟨a, T, x, y, d1, d2, b1, b2, b3, b4, b5⟩
          · rw [hd] at b; cases b; exact .inl ⟨a, f⟩
          · rw [hd] at b4; cases b4; exact .inr ⟨a, T, x, y, d1, d2, b1, b2, b3, rfl, b5⟩
        obtain ⟨x3, s3, sh3, r3⟩ := item_ok hp si xi hy2
        rw [drop_cons hd] at hr
        have hr0 : (match tgSet tg d ei with
          | some e1 => (body cl e1).bind fun p => match p.2 with
            | .nx => forL tg body cl (ds.drop (i + 1)) p.1
            | .ct => forL tg body cl (ds.drop (i + 1)) p.1
            | .bk => .ok (p.1, .nx)
            | .rt v => .ok (p.1, .rt v)
          | none => .no) = RR := hr
        refine ⟨ei, Gi, Fi, P1, d, x3, r3, ?_⟩
        cases q1 : tgSet tg d ei with
        | none =>
          simp only [q1] at hr0
          rw [← hr0] at h
          exact h.elim
        | some e2 =>
          simp only [q1] at hr0
          intro σ4 x4 hl4 k4
          have k04 : Keep Pb σ σ4 := ki.trans fun j hj => k4 j fun z => ht j z hj
          refine ⟨e2, Gi, Fi, P1, x4, ?_⟩
          cases q2 : body cl e2 with
          | ex n d' e' =>
            simp only [q2, R.bind] at hr0
            rw [← hr0] at h
            exact h.elim
          | no =>
            simp only [q2, R.bind] at hr0
            rw [← hr0] at h
            exact h
          | ok p =>
            obtain ⟨p1, fl⟩ := p
            simp only [q2, R.bind] at hr0
            cases fl with
            | nx => exact fun σ5 H5 G5 F5 x5 s5 k5 => ⟨p1, G5, F5, hr0, x5, s3.trans0 s5, k04.trans k5⟩
            | ct => exact fun σ5 H5 G5 F5 x5 s5 k5 => ⟨p1, G5, F5, hr0, x5, s3.trans0 s5, k04.trans k5⟩
            | bk =>
              intro σ5 H5 G5 F5 x5 s5 k5
              simp only at hr0
              rw [← hr0] at h
              simp only at h
              cases qu : unlockL it.as e0 p1 with
              | none => simp only [qu] at h; exact h.elim
              | some e3 =>
                simp only [qu] at h
                obtain ⟨F3, x9, s9⟩ := l4 H5 G5 F5 NoA p1 e3 σ5 x5 (s3.trans0 s5) (ks (k04.trans k5)) qu
                exact h σ5 H5 G5 F3 x9 (s0.trans0 s9) (kp (k04.trans k5))
            | rt y =>
              intro v' σ5 H5 G5 F5 T5 x5 r5 s5 k5
              simp only at hr0
              rw [← hr0] at h
              simp only at h
              cases qu : unlockL it.as e0 p1 with
              | none => simp only [qu] at h; exact h.elim
              | some e3 =>
                simp only [qu] at h
                obtain ⟨F3, x9, s9⟩ := l4 H5 G5 F5 T5 p1 e3 σ5 x5 (s3.trans0 s5) (ks (k04.trans k5)) qu
                exact h v' σ5 H5 G5 F3 T5 x9 r5 (s0.trans0 s9) (kp (k04.trans k5))
      · rintro σ2 H2 ⟨ei, Gi, Fi, hr, xi, si, ki⟩
        rw [List.drop_length] at hr
        have hr0 : R.ok (ei, Fl.nx) = RR := hr
        rw [← hr0] at h
        simp only at h
        cases qu : unlockL it.as e0 ei with
        | none => simp only [qu] at h; exact h.elim
        | some e3 =>
          simp only [qu] at h
          obtain ⟨F3, x9, s9⟩ := l4 H2 Gi Fi NoA ei e3 σ2 xi si (ks ki) qu
          exact h σ2 H2 Gi F3 x9 (s0.trans0 s9) (kp ki)
/-! ### while -/
theorem ts_wh {t : CT} {body : CS} (h : rdS K EK W0 cl Pr (cWh t body) D σ H) : tWhile (rdT K EK W0 cl t) (rdS K EK W0 cl Pr body) D σ H := by
  obtain ⟨e, G, F, P, x, h⟩ := h
  generalize hR : cWh t body cl e = RR at h
  refine ⟨fun n σ2 H2 => ∃ ei Gi Fi, whL t body cl n ei = RR ∧ Env1 K P H2 Gi Fi ei σ2 ∧ Stp H G F H2 Gi Fi NoA ∧ Keep Pr σ σ2, ⟨100000, e, G, F, hR, x, .refl, Keep.refl⟩, ?_⟩
  rintro n σ2 H2 ⟨ei, Gi, Fi, hr, xi, si, ki⟩
  refine ⟨ei, Gi, Fi, P, xi, ?_⟩
  cases n with
  | zero =>
    have hr0 : R.no = RR := hr
    rw [← hr0] at h
    exact h.elim
  | succ n =>
    have hr0 : ((t cl ei).bind fun p => match p.2 with
      | false => .ok (p.1, .nx)
      | true => (body cl p.1).bind fun q => match q.2 with
        | .nx => whL t body cl n q.1
        | .ct => whL t body cl n q.1
        | .bk => .ok (q.1, .nx)
        | .rt v => .ok (q.1, .rt v)) = RR := hr
    cases q : t cl ei with
    | no =>
      simp only [q, R.bind] at hr0
      rw [← hr0] at h
      exact h
    | ex n' d e' =>
      simp only [q, R.bind] at hr0
      rw [← hr0] at h
      exact fun H' G' F' cls od xx ss kk => h σ2 H' G' F' cls od xx (si.trans0 ss) ki kk
    | ok p =>
      obtain ⟨e1, b⟩ := p
      simp only [q, R.bind] at hr0
      intro H3 G3 F3 x3 s3
      cases b with
      | false =>
        rw [if_neg Bool.false_ne_true]
        simp only at hr0
        rw [← hr0] at h
        exact h σ2 H3 G3 F3 x3 (si.trans0 s3) ki
      | true =>
        rw [if_pos rfl]
        simp only at hr0
        refine ⟨fun σ' H' => ∃ ei Gi Fi, whL t body cl n ei = RR ∧ Env1 K P H' Gi Fi ei σ' ∧ Stp H G F H' Gi Fi NoA ∧ Keep Pr σ σ', fun σ' H' z => ⟨n, Nat.lt_succ_self _, z⟩, e1, G3, F3, P, x3, ?_⟩
        cases q2 : body cl e1 with
        | no =>
          simp only [q2] at hr0
          rw [← hr0] at h
          exact h
        | ex n' d e' =>
          simp only [q2] at hr0
          rw [← hr0] at h
          exact fun σ' H' G' F' cls od xx ss k2 kk => h σ' H' G' F' cls od xx ((si.trans0 s3).trans0 ss) (ki.trans k2) kk
        | ok p2 =>
          obtain ⟨e2, fl⟩ := p2
          simp only [q2] at hr0
          cases fl with
          | nx => exact fun σ5 H5 G5 F5 x5 s5 k5 => ⟨e2, G5, F5, hr0, x5, (si.trans0 s3).trans0 s5, ki.trans k5⟩
          | ct => exact fun σ5 H5 G5 F5 x5 s5 k5 => ⟨e2, G5, F5, hr0, x5, (si.trans0 s3).trans0 s5, ki.trans k5⟩
          | bk =>
            intro σ5 H5 G5 F5 x5 s5 k5
            simp only at hr0
            rw [← hr0] at h
            exact h σ5 H5 G5 F5 x5 ((si.trans0 s3).trans0 s5) (ki.trans k5)
          | rt y =>
            intro v' σ5 H5 G5 F5 T5 x5 r5 s5 k5
            simp only at hr0
            rw [← hr0] at h
            exact h v' σ5 H5 G5 F5 T5 x5 r5 ((si.trans0 s3).trans0 s5) (ki.trans k5)
end
end Ev
end

section
set_option Elab.async false
set_option linter.all false
set_option maxRecDepth 100000
set_option maxHeartbeats 1000000
/-! Several targets, stores, methods, calls. -/
namespace Ev
open PySem PySem.Spec PyProof.Rows L2
section
variable {X : Cx} {K : PySem.W.Frag} {EK : EKT} {W : WX} {cl : Cl} {G G' H H' : Hp} {P P' : Nat → Addr → Prop} {F F' T T' : Addr → Prop} {e e' : En} {σ σ' : L2.St} {Pr : List Nat} {D : Ends}
/-! ### a, b = x, y -/
def setA : List Nat → List V → L2.St → L2.St
  | i :: is, v :: vs, σ => setA is vs (σ.set i (some v))
  | _, _, σ => σ
theorem setA_keep : ∀ {is : List Nat} {vs : List V} {σ : L2.St}, (∀ i ∈ is, i ∉ Pr) → Keep Pr σ (setA is vs σ)
  | [], _, _, _ => Keep.refl
  | _ :: _, [], _, _ => Keep.refl
  | i :: is, v :: vs, σ, h => (keep_set (h i (List.mem_cons_self ..))).trans (setA_keep (is := is) fun j hj => h j (List.mem_cons_of_mem _ hj))
theorem putA : ∀ {is : List Nat} {xs : List Vl} {vs : List V} {T F : Addr → Prop} {e e' : En} {σ : L2.St}, Env1 K P H G F e σ → EsR K H G F' xs vs T → (∀ a, T a → ¬ F a ∧ H a ≠ none ∧ G a = none) → (∀ a, (∃ i, P i a) → ¬ T a) → asgAll is xs e = some e' →
    Env1 K P H G (fun a => F a ∨ T a) e' (setA is vs σ) ∧ vs.length = is.length
  | [], xs, vs, T, F, e, e', σ, en, r, hT, hP, h => by
    cases xs with
    | nil =>
      cases r
      cases h
      have hF : (fun a => F a ∨ NoA a) = F := by
        funext a
        simp
      rw [hF]
      exact ⟨en, rfl⟩
    | cons x xs => cases h
  | i :: is, xs, vs, T, F, e, e', σ, en, r, hT, hP, h => by
    cases r with
    | nil => cases h
    | @cons x xs v vs T1 T2 ro rs dj =>
      have h0 : (asgN i x e).bind (fun e1 => asgAll is xs e1) = some e' := h
      cases q : asgN i x e with
      | none => rw [q] at h0; cases h0
      | some e1 =>
        rw [q] at h0
        have he := asgN_some q
        subst he
        have en1 := en.put (i := i) ro (fun a z => hT a (.inl z)) (fun a z w => hP a z (.inl w))
        obtain ⟨a1, a2⟩ := putA (is := is) en1 rs (fun a z => ⟨fun w => w.elim (hT a (.inr z)).1 fun w => dj a w z, (hT a (.inr z)).2⟩) (fun a z w => hP a z (.inr w)) h0
        have hF : (fun a => (F a ∨ T1 a) ∨ T2 a) = fun a => F a ∨ T1 a ∨ T2 a := by
          funext a
          simp [or_assoc]
        rw [hF] at a1
        exact ⟨a1, by simp [a2]⟩
theorem ts_par {is : List Nat} {cs : List CE} (hi : ∀ i ∈ is, i ∉ Pr) (h : rdS K EK W cl Pr (cPar is cs) D σ H) :
    rdEs K EK W cl cs σ H fun vs H1 => vs.length = is.length ∧ ∀ H2, Same H1 H2 → D.nx (setA is vs σ) H2 := by
  obtain ⟨e, G, F, P, x, h⟩ := h
  refine ⟨e, G, F, P, x, ?_⟩
  cases q : esRun cs cl e with
  | no => simp only [cPar, q, R.bind] at h; exact h
  | ex n d e' => simp only [cPar, q, R.bind] at h; exact WExS.ex h
  | ok p =>
    simp only [cPar, q, R.bind] at h
    intro vs H1 G1 F1 T1 x1 rs s1
    cases qa : asgAll is p.2 p.1 with
    | none => simp only [qa] at h; exact h.elim
    | some e2 =>
      simp only [qa] at h
      obtain ⟨a1, a2⟩ := putA x1 rs (fun a z => ⟨fun w => s1.dj a w z, s1.tl a z, s1.tg a z⟩) (s1.np x.pv) qa
      refine ⟨a2, fun H2 sh => ?_⟩
      have s2 : Stp H G F H1 G1 (fun a => F1 a ∨ T1 a) NoA := ⟨s1.sg, s1.fr, s1.gd, fun a z => z.elim (fun w => s1.fd a w) False.elim, fun _ _ z => z, fun _ z => z.elim, fun _ z => z.elim⟩
      refine h _ H2 G1 _ (a1.grow sh (Same.refl _) (fun c u q => sh c u (a1.sub c u q)) a1.dis fun a z => (a1.pv a z).2.2) (s2.growH sh) (setA_keep hi)
/-! ### x[k] = v -/
/-- a slot's list is changed -/
theorem Env1.upd1 {i : Nat} {a : Addr} {ys : List V} {ds es : List PyData} (en : Env1 K P H G F e σ) (h : gt e i = some (.o, .list ds)) (hv : σ[i]? = some (some (.ref a))) (hy : FzA K G ys es) :
    Env1 K P (upd H a (.lst ys)) G F (st e i (some (.o, .list es))) σ ∧ Stp H G F (upd H a (.lst ys)) G F NoA := by
  obtain ⟨fp, h1, h2, h3⟩ := en.fp
  obtain ⟨v, hv', a', xs', ds', rfl, e1, q3, q4, q5⟩ := h1 i _ h
  rw [hv] at hv'
  cases hv'
  have hF := h2 i a q5
  have gn := en.dis a hF
  have nP : ∀ j b, P j b → b ≠ a := fun j b z w => (en.pv b ⟨j, z⟩).1 (w ▸ hF)
  refine ⟨⟨fun b z => ⟨(en.pv b z).1, ?_, (en.pv b z).2.2⟩, fun b u q => ?_, en.dis, fun b z => ?_, by rw [st_len]; exact en.len, fp, fun j x hx => ?_, h2, h3⟩, ?_⟩
  · obtain ⟨j, z⟩ := z
    rw [upd_ne (nP j b z)]
    exact (en.pv b ⟨j, z⟩).2.1
  · rw [upd_ne fun z => by rw [z, gn] at q; cases q]
    exact en.sub b u q
  · by_cases hb : b = a
    · rw [hb, upd_same]; simp
    · rw [upd_ne hb]; exact en.lv b z
  · by_cases hj : i = j
    · subst hj
      rw [gt_st_same (gt_lt h)] at hx
      cases hx
      exact ⟨_, hv, a, ys, es, rfl, rfl, upd_same, hy, q5⟩
    · rw [gt_st_ne hj] at hx
      obtain ⟨u, hu, ro⟩ := h1 j x hx
      refine ⟨u, hu, ?_⟩
      have ne : ∀ b, fp j b → b ≠ a := fun b z w => hj (h3 i j a q5 (w ▸ z))
      obtain ⟨ow, dd⟩ := x
      cases ow with
      | f => exact ro
      | l =>
        obtain ⟨b, zs, ds, w1, w2, w3, w4, w5⟩ := ro
        exact ⟨b, zs, ds, w1, w2, by rw [upd_ne (nP j b w5)]; exact w3, w4, w5⟩
      | o =>
        obtain ⟨b, zs, ds, w1, w2, w3, w4, w5⟩ := ro
        exact ⟨b, zs, ds, w1, w2, by rw [upd_ne (ne b w5)]; exact w3, w4, w5⟩
      | b =>
        obtain ⟨b, c, xs, ys, ds, es, w1, w2, w3, w4, w5, w6, w7, w8, w9⟩ := ro
        exact ⟨b, c, xs, ys, ds, es, w1, w2, by rw [upd_ne (ne b w7)]; exact w3, by rw [upd_ne (ne c w8)]; exact w4, w5, w6, w7, w8, w9⟩
  · exact ⟨Same.refl _, fun b o nf q => by rw [upd_ne fun (z : b = a) => nf (by rw [z]; exact hF)]; exact q, fun b q => .inl q, fun b q => q.elim .inl False.elim, fun _ _ z => z, fun _ z => z.elim, fun _ z => z.elim⟩
/-- the same of the outer list of two -/
theorem Env1.updB {i : Nat} {a b : Addr} {xs ys zs ws : List V} {es es' : List PyData} {ds ds' : List PyData} (en : Env1 K P H G F e σ) (h : gt e i = some (.b, .list (.list es :: ds))) (hv : σ[i]? = some (some (.ref a))) (ha : H a = some (.lst (.ref b :: xs))) (hb : H b = some (.lst zs))
    (hy : FzA K G ys ds') (hw : FzA K G ws es') :
    Env1 K P (upd (upd H b (.lst ws)) a (.lst (.ref b :: ys))) G F (st e i (some (.b, .list (.list es' :: ds')))) σ ∧ Stp H G F (upd (upd H b (.lst ws)) a (.lst (.ref b :: ys))) G F NoA := by
  obtain ⟨fp, h1, h2, h3⟩ := en.fp
  obtain ⟨v, hv', a', b', xs', ys', ds2, es2, rfl, e1, q3, q4, q5, q6, q7, q8, q9⟩ := h1 i _ h
  rw [hv] at hv'
  cases hv'
  rw [ha] at q3
  cases q3
  rw [hb] at q4
  cases q4
  have hF := h2 i a q7
  have hFb := h2 i b q8
  have nP : ∀ j c, P j c → c ≠ a ∧ c ≠ b := fun j c z => ⟨fun w => (en.pv c ⟨j, z⟩).1 (w ▸ hF), fun w => (en.pv c ⟨j, z⟩).1 (w ▸ hFb)⟩
  have same : ∀ c, c ≠ a → c ≠ b → (upd (upd H b (.lst ws)) a (.lst (.ref b :: ys))) c = H c := fun c n1 n2 => by rw [upd_ne n1, upd_ne n2]
  have atb : (upd (upd H b (.lst ws)) a (.lst (.ref b :: ys))) b = some (.lst ws) := by rw [upd_ne (Ne.symm q9), upd_same]
  refine ⟨⟨fun c z => ⟨(en.pv c z).1, ?_, (en.pv c z).2.2⟩, fun c u q => ?_, en.dis, fun c z => ?_, by rw [st_len]; exact en.len, fp, fun j x hx => ?_, h2, h3⟩, ?_⟩
  · obtain ⟨j, z⟩ := z
    rw [same c (nP j c z).1 (nP j c z).2]
    exact (en.pv c ⟨j, z⟩).2.1
  · rw [same c (fun z => by rw [z, en.dis a hF] at q; cases q) (fun z => by rw [z, en.dis b hFb] at q; cases q)]
    exact en.sub c u q
  · by_cases n1 : c = a
    · rw [n1, upd_same]; simp
    · by_cases n2 : c = b
      · rw [n2, atb]; simp
      · rw [same c n1 n2]; exact en.lv c z
  · by_cases hj : i = j
    · subst hj
      rw [gt_st_same (gt_lt h)] at hx
      cases hx
      exact ⟨_, hv, a, b, ys, ws, ds', es', rfl, rfl, upd_same, atb, hy, hw, q7, q8, q9⟩
    · rw [gt_st_ne hj] at hx
      obtain ⟨u, hu, ro⟩ := h1 j x hx
      refine ⟨u, hu, ?_⟩
      have ne : ∀ c, fp j c → c ≠ a ∧ c ≠ b := fun c z => ⟨fun w => hj (h3 i j a q7 (w ▸ z)), fun w => hj (h3 i j b q8 (w ▸ z))⟩
      obtain ⟨ow, dd⟩ := x
      cases ow with
      | f => exact ro
      | l =>
        obtain ⟨c, zs, ds, w1, w2, w3, w4, w5⟩ := ro
        exact ⟨c, zs, ds, w1, w2, by rw [same c (nP j c w5).1 (nP j c w5).2]; exact w3, w4, w5⟩
      | o =>
        obtain ⟨c, zs, ds, w1, w2, w3, w4, w5⟩ := ro
        exact ⟨c, zs, ds, w1, w2, by rw [same c (ne c w5).1 (ne c w5).2]; exact w3, w4, w5⟩
      | b =>
        obtain ⟨c, d, xs, ys, ds, es, w1, w2, w3, w4, w5, w6, w7, w8, w9⟩ := ro
        exact ⟨c, d, xs, ys, ds, es, w1, w2, by rw [same c (ne c w7).1 (ne c w7).2]; exact w3, by rw [same d (ne d w8).1 (ne d w8).2]; exact w4, w5, w6, w7, w8, w9⟩
  · exact ⟨Same.refl _, fun c o nf q => by rw [same c (fun (z : c = a) => nf (by rw [z]; exact hF)) (fun (z : c = b) => nf (by rw [z]; exact hFb))]; exact q, fun c q => .inl q, fun c q => q.elim .inl False.elim, fun _ _ z => z, fun _ z => z.elim, fun _ z => z.elim⟩
/-- what a store at a place of a list does to its data -/
def SeS (f : SeF) : Prop := ∀ (d k v d' : PyData), f d k v = some d' → ∃ ds z j, d = .list ds ∧ k = .int z ∧ ixN ds.length z = some j ∧ d' = .list (ds.set j v)
theorem ts_set {f : SeF} {i : Nat} {k : Ar} {c : CE} (hf : SeS f) (h : rdS K EK W cl Pr (cSet f i k c) D σ H) : tAsg (rdE K EK W cl c) (gSub (tVar i) (rd1 K EK W cl k) rSetL) D σ H := by
  obtain ⟨e, G, F, P, x, h⟩ := h
  refine ⟨e, G, F, P, x, ?_⟩
  cases q : c cl e with
  | no => simp only [cSet, q, R.bind] at h; exact h
  | ex n d e' => simp only [cSet, q, R.bind] at h; exact WExS.ex h
  | ok p =>
    obtain ⟨e1, ow, dv⟩ := p
    simp only [cSet, q, R.bind] at h
    intro v H1 G1 F1 T1 x1 r s1
    obtain ⟨G2, x2, s2, fz⟩ := frozen1 x x1 r s1
    cases g1 : gt e1 i with
    | none => simp only [g1] at h; exact h.elim
    | some y =>
      simp only [g1] at h
      obtain ⟨fp, h1, _, _⟩ := x2.fp
      obtain ⟨vo, hvo, _⟩ := h1 i y g1
      refine ⟨vo, hvo, rdAs_1 (rd_dat x2 ?_)⟩
      cases q2 : arRun [k] cl e1 with
      | no => simp only [q2] at h; exact h
      | ex n d e' => simp only [q2] at h; exact WEx.back (WExS.ex h) s2
      | ok p2 =>
        obtain ⟨e2, xs⟩ := p2
        simp only [q2] at h
        cases qd : arDat [k] e2 xs with
        | none => simp only [qd] at h; exact h.elim
        | some ds =>
          simp only [qd] at h ⊢
          intro us H3 G3 F3 x3 rt s3 u hu
          subst hu
          cases rt with
          | @cons _ kd _ ds' r1 rt =>
            have h0 : EndS K EK W Pr P D H G F σ (seRes f i e2 dv kd) := h
            have fz3 : Fz K G3 v dv := fz.mono s3.sg
            have s23 := s2.trans0 s3
            unfold seRes at h0
            cases g2 : gt e2 i with
            | none => rw [g2] at h0; exact h0.elim
            | some y2 =>
              obtain ⟨ow2, d2⟩ := y2
              rw [g2] at h0
              cases ow2 with
              | f => exact h0.elim
              | l => exact h0.elim
              | o =>
                simp only at h0
                cases qf : f d2 kd dv with
                | none => simp only [qf] at h0; exact h0.elim
                | some d3 =>
                  simp only [qf] at h0
                  obtain ⟨ds2, z, j, rfl, rfl, hj, rfl⟩ := hf _ _ _ _ qf
                  obtain ⟨fp2, w1, _, _⟩ := x3.fp
                  obtain ⟨vo2, hvo2, a, zs, ds3, rfl, e3, w3, w4, w5⟩ := w1 i _ g2
                  cases e3
                  rw [hvo] at hvo2
                  cases hvo2
                  obtain ⟨x4, s4⟩ := x3.upd1 g2 hvo (w4.set j fz3)
                  exact ⟨a, zs, z, j, rfl, r1.int, w3, by rw [w4.len]; exact hj, h0 σ _ _ _ x4 (s23.trans0 s4) Keep.refl⟩
              | b =>
                cases d2 with
                | list l2 =>
                  cases l2 with
                  | cons hd2 ds2 =>
                    cases hd2 with
                    | list es =>
                      cases kd with
                      | int z =>
                        simp only at h0
                        by_cases hz : 0 < z ∧ z < (ds2.length : Int) + 1
                        · rw [if_pos hz] at h0
                          obtain ⟨fp2, w1, _, _⟩ := x3.fp
                          obtain ⟨vo2, hvo2, a, b, xs', ys', ds3, es3, rfl, e3, w3, w4, w5, w6, w7, w8, w9⟩ := w1 i _ g2
                          cases e3
                          rw [hvo] at hvo2
                          cases hvo2
                          obtain ⟨x4, s4⟩ := x3.updB g2 hvo w3 w4 (w5.set (z.toNat - 1) fz3) w6
                          have hup : upd H3 b (.lst ys') = H3 := by
                            funext c
                            by_cases hc : c = b
                            · rw [hc, upd_same, w4]
                            · rw [upd_ne hc]
                          rw [hup] at x4 s4
                          have hlen := w5.len
                          have hj : ixN (V.ref b :: xs').length z = some z.toNat := by
                            unfold ixN
                            rw [if_pos (by omega), if_pos (by simp; omega)]
                          have hset : (V.ref b :: xs').set z.toNat v = V.ref b :: xs'.set (z.toNat - 1) v := by
                            obtain ⟨m, hm⟩ : ∃ m, z.toNat = m + 1 := ⟨z.toNat - 1, by omega⟩
                            rw [hm]
                            rfl
                          exact ⟨a, _, z, z.toNat, rfl, r1.int, w3, hj, by rw [hset]; exact h0 σ _ _ _ x4 (s23.trans0 s4) Keep.refl⟩
                        · rw [if_neg hz] at h0
                          exact h0.elim
                      | _ => exact h0.elim
                    | _ => exact h0.elim
                  | nil => exact h0.elim
                | _ => exact h0.elim
/-! ### methods that change a list -/
def MuS (r : V → List V → Hp → VK → Prop) (f : MuF) (K : PySem.W.Frag) : Prop := ∀ (a : Addr) (xs : List V) (ds args : List PyData) (vs : List V) (H G : Hp) (d' res : PyData) (Q : VK), Same G H → H a = some (.lst xs) → FzA K G xs ds → RtA K H G vs args → f (.list ds) args = some (d', res) →
  (∀ v ys es, d' = .list es → FzA K G ys es → Fz K G v res → Q v (upd H a (.lst ys))) → r (.ref a) vs H Q
theorem te_mut {r : V → List V → Hp → VK → Prop} {f : MuF} {i : Nat} {as : List Ar} {Q : VK} (hf : MuS r f K) (h : rdE K EK W cl (cMut f i as) σ H Q) : tBM K "list" r (tVar i) (rdAs K EK W cl as) σ H Q := by
  obtain ⟨e, G, F, P, x, h⟩ := h
  obtain ⟨fp, h1, _, _⟩ := x.fp
  unfold cMut at h
  cases g : gt e i with
  | none => rw [g] at h; exact h.elim
  | some y =>
    obtain ⟨ow, d⟩ := y
    rw [g] at h
    cases ow with
    | o =>
      cases d with
      | list ds0 =>
        obtain ⟨v, hv, a, xs, ds', rfl, e1, q3, q4, q5⟩ := h1 i _ g
        refine ⟨_, hv, .inl ⟨rfl, xs, .inl (.inl q3)⟩, rd_dat x ?_⟩
        simp only at h
        cases q : arRun as cl e with
        | no => simp only [q, R.bind] at h
        | ex n d e' => simp only [q, R.bind] at h; exact h
        | ok p =>
          obtain ⟨e2, zs⟩ := p
          simp only [q, R.bind] at h
          cases qd : arDat as e2 zs with
          | none => simp only [qd] at h
          | some args =>
            simp only [qd] at h ⊢
            intro vs H3 G3 F3 x3 rt s3
            unfold muRes at h
            cases g2 : gt e2 i with
            | none => simp only [g2] at h
            | some y2 =>
              obtain ⟨ow2, d2⟩ := y2
              simp only [g2] at h
              cases ow2 with
              | o =>
                simp only at h
                cases qf : f d2 args with
                | none => simp only [qf] at h
                | some dr =>
                  obtain ⟨d', res⟩ := dr
                  simp only [qf] at h
                  obtain ⟨fp2, w1, _, _⟩ := x3.fp
                  obtain ⟨vo2, hvo2, a2, zs2, ds3, rfl, e3, w3, w4, w5⟩ := w1 i _ g2
                  rw [hv] at hvo2
                  cases hvo2
                  cases e3
                  refine hf a zs2 ds3 args vs H3 G3 d' res Q x3.sub w3 w4 rt qf fun v ys es e4 f1 f2 => ?_
                  subst e4
                  obtain ⟨x4, s4⟩ := x3.upd1 g2 hv f1
                  exact h v _ _ _ NoA x4 f2 (s3.trans0 s4)
              | f => exact h.elim
              | l => exact h.elim
              | b => exact h.elim
      | _ => exact h.elim
    | f => exact h.elim
    | l => exact h.elim
    | b => exact h.elim
/-! ### methods that change nothing -/
theorem rd_methE {ty : PyData → Bool} {f : OpF} {a : Ar} {as : List Ar} {Q : VK} {TyP : V → Hp → Prop} {r : V → List V → Hp → VK → Prop} (hty : ∀ {v d H G}, ty d = true → Same G H → Rt K H G v d → TyP v H)
    (hr : ∀ v vs H G d ds x Q, Same G H → Rt K H G v d → RtA K H G vs ds → f (d :: ds) = some x → Fin K H G x Q → r v vs H Q) (h : rdE K EK W cl (cMeth ty f a as) σ H Q) : rd1 K EK W cl a σ H fun x H1 => TyP x H1 ∧ rdAs K EK W cl as σ H1 fun xs H2 => r x xs H2 Q := by
  obtain ⟨e, G, F, P, x, h⟩ := h
  cases a with
  | v c =>
    refine ⟨e, G, F, P, x, ?_⟩
    cases q : c cl e with
    | no => simp only [cMeth, q, R.bind] at h
    | ex n d e' => simp only [cMeth, q, R.bind] at h; exact h
    | ok p =>
      obtain ⟨e1, ow, d⟩ := p
      simp only [cMeth, q, R.bind] at h
      intro v H1 G1 F1 T1 x1 ro s1
      obtain ⟨G2, x2, s2, fz⟩ := frozen1 x x1 ro s1
      by_cases ht : ty d = true
      · rw [if_pos ht] at h
        refine ⟨hty ht x2.sub (.inl fz), rd_dat x2 ?_⟩
        cases q2 : arRun as cl e1 with
        | no => simp only [q2] at h
        | ex n d e' => simp only [q2] at h; exact WEx.back h s2
        | ok p2 =>
          obtain ⟨e2, zs⟩ := p2
          simp only [q2] at h
          cases qd : arDat as e2 zs with
          | none => simp only [qd, Option.map_none, opRes] at h
          | some ds =>
            simp only [qd, Option.map_some, opRes] at h ⊢
            cases qf : f (d :: ds) with
            | none => simp only [qf] at h
            | some y =>
              simp only [qf] at h
              intro vs H3 G3 F3 x3 rt s3
              exact hr v vs H3 G3 d ds y Q x3.sub (.inl (fz.mono s3.sg)) rt qf (Fin.of x3 (s2.trans0 s3) h)
      · rw [if_neg ht] at h
        exact h.elim
  | n i =>
    simp only [cMeth] at h
    cases g : gt e i with
    | none => rw [g] at h; exact h.elim
    | some y =>
      rw [g] at h
      simp only at h
      by_cases ht : ty y.2 = true
      · rw [if_pos ht] at h
        obtain ⟨fp, h1, _, _⟩ := x.fp
        obtain ⟨v, hv, ro⟩ := h1 i y g
        have r0 : Rt K H H v y.2 := by
          obtain ⟨ow, d⟩ := y
          cases ow with
          | f => exact .inl (Fz.mono x.sub ro)
          | o =>
            obtain ⟨a, xs, ds, h1, h2, h3, h4, h5⟩ := ro
            exact .inr ⟨a, xs, ds, h1, h2, h3, h4.mono x.sub⟩
          | l =>
            obtain ⟨a, xs, ds, h1, h2, h3, h4, h5⟩ := ro
            exact .inr ⟨a, xs, ds, h1, h2, h3, h4.mono x.sub⟩
          | b =>
            obtain ⟨a, b, xs, ys, ds, es, rfl, rfl, h3, h4, h5, h6, h7⟩ := ro
            exact .inl (Fz.lst' (.inl h3) (.cons (Fz.lst' (.inl h4) (h6.mono x.sub)) (h5.mono x.sub)))
        refine ⟨v, hv, hty ht (Same.refl _) r0, rd_dat x ?_⟩
        have h0 : (match ((match gt e i with
          | some _ => (arRun as cl e).bind fun q => .ok (q.1, none :: q.2)
          | none => .no : R (En × List (Option Vl))).bind fun q => opRes f q.1 (arDat (.n i :: as) q.1 q.2)) with
          | .ok p => ∀ v H' G' F' T, Env1 K P H' G' F' p.1 σ → Rv K H' G' p.2.1 v p.2.2 T → Stp H G F H' G' F' T → Q v H'
          | .ex n d e' => WEx K EK W P H G F σ n d e'
          | .no => False : Prop) := h
        rw [g] at h0
        cases q2 : arRun as cl e with
        | no => simp only [q2, R.bind] at h0
        | ex n d e' => simp only [q2, R.bind] at h0; exact h0
        | ok p2 =>
          obtain ⟨e2, zs⟩ := p2
          simp only [q2, R.bind] at h0
          have hd : arDat (.n i :: as) e2 (none :: zs) = match gt e2 i with
            | some (.f, d) => (arDat as e2 zs).map (d :: ·)
            | some (.o, d) => (arDat as e2 zs).map (d :: ·)
            | some (.l, d) => (arDat as e2 zs).map (d :: ·)
            | _ => none := rfl
          cases g2 : gt e2 i with
          | none => rw [hd, g2] at h0; simp only [opRes] at h0
          | some y2 =>
            obtain ⟨ow2, d2⟩ := y2
            cases qd : arDat as e2 zs with
            | none => rw [hd, g2, qd] at h0; cases ow2 <;> simp only [Option.map_none, opRes] at h0
            | some ds =>
              have nb : ow2 ≠ .b := fun z => by rw [hd, g2, z] at h0; simp only [opRes] at h0
              have h1 : (match opRes f e2 (some (d2 :: ds)) with
                | .ok p => ∀ v H' G' F' T, Env1 K P H' G' F' p.1 σ → Rv K H' G' p.2.1 v p.2.2 T → Stp H G F H' G' F' T → Q v H'
                | .ex n d e' => WEx K EK W P H G F σ n d e'
                | .no => False : Prop) := by
                rw [hd, g2, qd] at h0
                cases ow2 with
                | b => exact absurd rfl nb
                | f => exact h0
                | o => exact h0
                | l => exact h0
              simp only [opRes] at h1
              cases qf : f (d2 :: ds) with
              | none => simp only [qf] at h1
              | some yv =>
                simp only [qf] at h1 ⊢
                simp only [qd]
                intro vs H3 G3 F3 x3 rt s3
                obtain ⟨fp3, w1, _, _⟩ := x3.fp
                obtain ⟨v3, hv3, ro3⟩ := w1 i _ g2
                rw [hv] at hv3
                cases hv3
                have r3 : Rt K H3 G3 v d2 := by
                  cases ow2 with
                  | f => exact .inl ro3
                  | b => exact absurd rfl nb
                  | o =>
                    obtain ⟨a, xs, ds, h1, h2, h3, h4, h5⟩ := ro3
                    exact .inr ⟨a, xs, ds, h1, h2, h3, h4⟩
                  | l =>
                    obtain ⟨a, xs, ds, h1, h2, h3, h4, h5⟩ := ro3
                    exact .inr ⟨a, xs, ds, h1, h2, h3, h4⟩
                exact hr v vs H3 G3 d2 ds yv Q x3.sub r3 rt qf (Fin.of x3 s3 h1)
      · rw [if_neg ht] at h
        exact h.elim
end
end Ev
end

section
set_option Elab.async false
set_option linter.all false
set_option maxRecDepth 100000
set_option maxHeartbeats 1000000
/-! Calls, functions. -/
namespace Ev
open PySem PySem.Spec PyProof.Rows L2
section
variable {X : Cx} {K : PySem.W.Frag} {EK : EKT} {W : WX} {cl : Cl} {G G' H H' : Hp} {P P' : Nat → Addr → Prop} {F F' T T' : Addr → Prop} {e e' : En} {σ σ' : L2.St} {Pr : List Nat} {D : Ends}
/-! ### x[k], x[0] == [], x[0].pop() of a name -/
/-- a list of two kinds becomes a plain one, its first item frozen -/
theorem Env1.toO {i : Nat} {es ds : List PyData} (en : Env1 K P H G F e σ) (h : gt e i = some (.b, .list (.list es :: ds))) :
    ∃ a b xs G' F', σ[i]? = some (some (.ref a)) ∧ H a = some (.lst (.ref b :: xs)) ∧ Fz K G' (.ref b) (.list es) ∧ Env1 K P H G' F' (st e i (some (.o, .list (.list es :: ds)))) σ ∧ Stp H G F H G' F' NoA := by
  obtain ⟨fp, h1, h2, h3⟩ := en.fp
  obtain ⟨v, hv, a, b, xs, ys, ds2, es2, rfl, e1, q3, q4, q5, q6, q7, q8, q9⟩ := h1 i _ h
  cases e1
  have hF := h2 i a q7
  have hFb := h2 i b q8
  have gb : G b = none := en.dis b hFb
  have sG : Same G (frz H G fun c => c = b) := frz_same fun c z => z ▸ gb
  have fb : Fz K (frz H G fun c => c = b) (.ref b) (.list es) := Fz.lst' (.inl ((frz_in rfl).trans q4)) (q6.mono sG)
  refine ⟨a, b, xs, frz H G fun c => c = b, fun c => F c ∧ c ≠ b, hv, q3, fb, ⟨fun c z => ⟨fun w => (en.pv c z).1 w.1, (en.pv c z).2.1, ?_⟩, frz_sub en.sub, fun c z => ?_, fun c z => en.lv c z.1, by rw [st_len]; exact en.len,
    ⟨fun j c => fp j c ∧ c ≠ b, fun j x hx => ?_, fun j c z => ⟨h2 j c z.1, z.2⟩, fun j k c z w => h3 j k c z.1 w.1⟩⟩, sG, fun c o _ q => q, fun c q => (frz_new q).elim .inl fun z => .inr (.inl (z ▸ hFb)), fun c q => q.elim (fun z => .inl z.1) False.elim, fun _ _ z => z, fun _ z => z.elim, fun _ z => z.elim⟩
  · rw [frz_out (T := fun c => c = b) fun w => (en.pv c z).1 (by rw [w]; exact hFb)]
    exact (en.pv c z).2.2
  · rw [frz_out (T := fun c => c = b) z.2]
    exact en.dis c z.1
  · by_cases hj : i = j
    · subst hj
      rw [gt_st_same (gt_lt h)] at hx
      cases hx
      exact ⟨_, hv, a, _, _, rfl, rfl, q3, .cons fb (q5.mono sG), q7, q9⟩
    · rw [gt_st_ne hj] at hx
      obtain ⟨u, hu, ro⟩ := h1 j x hx
      refine ⟨u, hu, ?_⟩
      have ne : ∀ c, fp j c → c ≠ b := fun c z w => hj (h3 i j b q8 (w ▸ z))
      have r2 : Ro K H (frz H G fun c => c = b) (P j) x.1 u x.2 (fp j) := ro.more sG
      obtain ⟨ow, dd⟩ := x
      cases ow with
      | f => exact r2
      | l => exact r2
      | o =>
        obtain ⟨c, zs, ds, w1, w2, w3, w4, w5⟩ := r2
        exact ⟨c, zs, ds, w1, w2, w3, w4, w5, ne c w5⟩
      | b =>
        obtain ⟨c, d, xs, ys, ds, es, w1, w2, w3, w4, w5, w6, w7, w8, w9⟩ := r2
        exact ⟨c, d, xs, ys, ds, es, w1, w2, w3, w4, w5, w6, ⟨w7, ne c w7⟩, ⟨w8, ne d w8⟩, w9⟩
theorem atI0 {x : V} {xs : List V} : atI (x :: xs) 0 = some x := by
  unfold atI ixN
  simp
theorem te_ixN {f : OpF} {i : Nat} {k : Int} {r : R2} {Q : VK} (hr : OpS K (lift2 r) f) (hL : ∀ x y H Q, rIxL K x y H Q → r x y H Q) (h : rdE K EK W cl (cIxN f i k) σ H Q) : tOp r (tVar i) (tC (.int k)) σ H Q := by
  have gen : rdE K EK W cl (cOp f [.n i, .v (cK (.int k))]) σ H Q → tOp r (tVar i) (tC (.int k)) σ H Q := fun h => by
    obtain ⟨v, hv, z⟩ := te_op2 hr h
    exact ⟨v, hv, te_K (EK := EK) (W := W) (cl := cl) (fun _ => .int k) (show rdE K EK W cl (cK (.int k)) σ H _ from z)⟩
  obtain ⟨e, G, F, P, x, h⟩ := h
  have keep : (match cOp f [.n i, .v (cK (.int k))] cl e with
    | .ok p => ∀ v H' G' F' T, Env1 K P H' G' F' p.1 σ → Rv K H' G' p.2.1 v p.2.2 T → Stp H G F H' G' F' T → Q v H'
    | .ex n d e' => WEx K EK W P H G F σ n d e'
    | .no => False) → tOp r (tVar i) (tC (.int k)) σ H Q := fun h => gen ⟨e, G, F, P, x, h⟩
  unfold cIxN at h
  cases g : gt e i with
  | none => rw [g] at h; exact keep h
  | some y =>
    obtain ⟨ow, d⟩ := y
    rw [g] at h
    cases ow with
    | f => exact keep h
    | l => exact keep h
    | o => exact keep h
    | b =>
      cases d with
      | list l =>
        cases l with
        | nil => exact h.elim
        | cons d0 ds =>
          cases d0 with
          | list es =>
            simp only at h
            by_cases hk : k = 0
            · rw [if_pos hk] at h
              obtain ⟨a, b, xs, G', F', hv, ha, fb, x', s⟩ := x.toO g
              subst hk
              exact ⟨_, hv, hL _ _ _ _ ⟨a, _, 0, .ref b, rfl, rfl, (.inl (.inl ha)), atI0, h _ H G' F' NoA x' fb s⟩⟩
            · rw [if_neg hk] at h
              by_cases hk2 : 0 < k
              · rw [if_pos hk2] at h
                cases qd : ds[k.toNat - 1]? with
                | none => simp only [qd] at h
                | some d =>
                  simp only [qd] at h
                  obtain ⟨fp, h1, _, _⟩ := x.fp
                  obtain ⟨v, hv, a, b, xs, ys, ds2, es2, rfl, e1, q3, q4, q5, q6, q7, q8, q9⟩ := h1 i _ g
                  cases e1
                  obtain ⟨w, hw, fw⟩ := q5.get qd
                  refine ⟨_, hv, hL _ _ _ _ ⟨a, _, k, w, rfl, rfl, .inl (.inl q3), ?_, h w H G F NoA x fw .refl⟩⟩
                  have hlt := (List.getElem?_eq_some_iff.mp hw).1
                  unfold atI ixN
                  rw [if_pos (by omega), if_pos (by simp; omega)]
                  show (V.ref b :: xs)[k.toNat]? = some w
                  obtain ⟨m, hm⟩ : ∃ m, k.toNat = m + 1 := ⟨k.toNat - 1, by omega⟩
                  rw [hm] at hw ⊢
                  exact hw
              · rw [if_neg hk2] at h
                exact h.elim
          | _ => exact h.elim
      | _ => exact h.elim
theorem te_pop0 {i : Nat} {Q : VK} {r : R2} (hL : ∀ x y H Q, rIxL K x y H Q → r x y H Q) (h : rdE K EK W cl (cPop0 i) σ H Q) : tBM0 K "list" rPop (tOp r (tVar i) (tC (.int 0))) σ H Q := by
  obtain ⟨e, G, F, P, x, h⟩ := h
  unfold cPop0 at h
  cases g : gt e i with
  | none => rw [g] at h; exact h.elim
  | some y =>
    obtain ⟨ow, d⟩ := y
    rw [g] at h
    cases ow with
    | f => exact h.elim
    | l => exact h.elim
    | o => exact h.elim
    | b =>
      cases d with
      | list l =>
        cases l with
        | nil => exact h.elim
        | cons d0 ds =>
          cases d0 with
          | list es =>
            simp only at h
            cases qd : es.getLast? with
            | none => simp only [qd] at h
            | some d =>
              simp only [qd] at h
              obtain ⟨fp, h1, _, _⟩ := x.fp
              obtain ⟨v, hv, a, b, xs, ys, ds2, es2, rfl, e1, q3, q4, q5, q6, q7, q8, q9⟩ := h1 i _ g
              cases e1
              rw [List.getLast?_eq_getElem?] at qd
              obtain ⟨w, hw, fw⟩ := q6.get qd
              have hdl : FzA K G ys.dropLast es.dropLast := by
                rw [List.dropLast_eq_take, List.dropLast_eq_take, q6.len]
                exact q6.take _
              obtain ⟨x4, s4⟩ := x.updB g hv q3 q4 q5 hdl
              have hup : upd (upd H b (.lst ys.dropLast)) a (.lst (.ref b :: xs)) = upd H b (.lst ys.dropLast) := by
                funext c
                by_cases hc : c = a
                · rw [hc, upd_same, upd_ne q9, q3]
                · rw [upd_ne hc]
              rw [hup] at x4 s4
              exact ⟨_, hv, hL _ _ _ _ ⟨a, _, 0, .ref b, rfl, rfl, (.inl (.inl q3)), atI0, .inl ⟨rfl, ys, .inl (.inl q4)⟩, b, ys, w, rfl, rfl, q4, by rw [q6.len]; exact hw, h w _ _ _ NoA x4 fw s4⟩⟩
          | _ => exact h.elim
      | _ => exact h.elim
/-- == and !=, one of both of depth 64 at most -/
def rEqM (K : PySem.W.Frag) (neg : Bool) : R2 := fun x y H Q => ∃ d e, Dp K H x d ∧ Dp K H y e ∧ d.canLay0 = true ∧ e.canLay0 = true ∧ min d.depth e.depth ≤ 64 ∧ Q (.bl (neg != PyData.eqv d e)) H
theorem te_ixNil {g f : OpF} {i : Nat} {ne : Bool} {Q : VK} {r : R2} (hr : OpS K (lift2 r) f) (hL : ∀ x y H Q, rIxL K x y H Q → r x y H Q) (hg : OpS K (lift2 (rEqM K ne)) g) (h : rdE K EK W cl (cIxNil g f i ne) σ H Q) :
    tOp (rEqM K ne) (tOp r (tVar i) (tC (.int 0))) (L2.tLst tNil) σ H Q := by
  have gen : rdE K EK W cl (cOp g [.v (cIxN f i 0), .v (cLst [])]) σ H Q → tOp (rEqM K ne) (tOp r (tVar i) (tC (.int 0))) (L2.tLst tNil) σ H Q := fun h => by
    have z := te_op2 hg h
    refine te_ixN (EK := EK) (W := W) (cl := cl) hr hL (rdE.imp z fun v H1 z => ?_)
    have z1 : rdE K EK W cl (cLst []) σ H1 _ := z
    have z2 := te_lst (Nat.zero_le _) z1
    exact rdEs_nil z2
  obtain ⟨e, G, F, P, x, h⟩ := h
  have keep : (match cOp g [.v (cIxN f i 0), .v (cLst [])] cl e with
    | .ok p => ∀ v H' G' F' T, Env1 K P H' G' F' p.1 σ → Rv K H' G' p.2.1 v p.2.2 T → Stp H G F H' G' F' T → Q v H'
    | .ex n d e' => WEx K EK W P H G F σ n d e'
    | .no => False) → tOp (rEqM K ne) (tOp r (tVar i) (tC (.int 0))) (L2.tLst tNil) σ H Q := fun h => gen ⟨e, G, F, P, x, h⟩
  unfold cIxNil at h
  cases q : gt e i with
  | none => rw [q] at h; exact keep h
  | some y =>
    obtain ⟨ow, d⟩ := y
    rw [q] at h
    cases ow with
    | f => exact keep h
    | l => exact keep h
    | o => exact keep h
    | b =>
      cases d with
      | list l =>
        cases l with
        | nil => exact keep h
        | cons d0 ds =>
          cases d0 with
          | list es =>
            simp only at h
            obtain ⟨fp, h1, _, _⟩ := x.fp
            obtain ⟨v, hv, a, b, xs, ys, ds2, es2, rfl, e1, q3, q4, q5, q6, q7, q8, q9⟩ := h1 i _ q
            cases e1
            refine ⟨_, hv, hL _ _ _ _ ⟨a, _, 0, .ref b, rfl, rfl, (.inl (.inl q3)), atI0, ?_⟩⟩
            refine ⟨Nat.zero_le _, fun p hp => ?_⟩
            have sh : Same H (upd H p (.lst [])) := upd_out hp
            have fb : Fz K (upd H p (.lst [])) (.ref b) (.list es) := Fz.lst' (.inl (sh _ _ q4)) (q6.mono fun c u z => sh c u (x.sub c u z))
            have fp : Fz K (upd H p (.lst [])) (.ref p) (.list []) := Fz.lst' (.inl upd_same) .nil
            have e0 : PyData.eqv (.list es) (.list []) = es.isEmpty := by
              cases es <;> simp [PyData.eqv, PyData.eqvAll]
            refine ⟨_, _, fb.dp, fp.dp, fb.lay, fp.lay, ?_, ?_⟩
            · have : (PyData.list []).depth = 1 := by simp [PyData.depth, PyData.depthAll]
              omega
            · rw [e0]
              have x1 := x.grow sh (Same.refl _) (fun c u z => sh c u (x.sub c u z)) x.dis fun a z => (x.pv a z).2.2
              exact h _ _ _ _ NoA x1 (.bl _) (Stp.refl.growH sh)
          | _ => exact keep h
      | _ => exact keep h
/-! ### calls -/
/-- what a function of the table promises -/
def spF (K : PySem.W.Frag) (EK : EKT) (r : List Vl → R (Vl × List Vl)) (np : Nat) (io : List Nat) : Sp := fun vs H Q E => vs.length = np ∧ ∃ xs G F P, Env1 K P H G F (xs.map some) (vs.map some) ∧ match r xs with
  | .ok p => ∀ v H' G' F' T, Env1 K (fun j => P (io.getD j 0)) H' G' F' (p.2.map some) (io.map fun i => vs[i]?) → Rv K H' G' p.1.1 v p.1.2 T → Stp H G F H' G' F' T → Q v H'
  | .ex n d _ => ∀ H' G' F' cls od, Same G' H' → Stp H G F H' G' F' NoA → EK H' G' n d cls od → E cls od H'
  | .no => False
theorem gt_map (xs : List Vl) (k : Nat) : gt (xs.map some) k = xs[k]? := by
  induction xs generalizing k with
  | nil => simp [gt]
  | cons x xs ih =>
    cases k with
    | zero => simp [gt]
    | succ k => simpa [gt] using ih k
/-- frames: what is owned beside the called ones' -/
theorem Stp.frame {Fa Fc Fc' : Addr → Prop} (s : Stp H G Fc H' G' Fc' T) (hs : ∀ a, Fc a → Fa a) (hl : ∀ a, Fa a → H a ≠ none ∧ G a = none) : Stp H G Fa H' G' (fun a => (Fa a ∧ ¬ Fc a) ∨ Fc' a) T where
  sg := s.sg
  fr := fun a o nf q => s.fr a o (fun z => nf (hs a z)) q
  gd := fun a q => (s.gd a q).imp_right fun z => z.imp_left (hs a)
  fd := fun a q => by
    rcases q with (q | q) | q
    · exact .inl q.1
    · exact (s.fd a (.inl q)).imp_left (hs a)
    · exact (s.fd a (.inr q)).imp_left (hs a)
  dj := fun a q w => by
    rcases q with q | q
    · rcases s.fd a (.inr w) with z | z
      · exact q.2 z
      · exact (hl a q.1).1 z
    · exact s.dj a q w
  tg := s.tg
  tl := s.tl
/-- the arguments in the called one's slots -/
theorem args_env {as : List Ar} {xs : List (Option Vl)} {ys : List Vl} {vs : List V} {fp : Nat → Addr → Prop} (h1 : ∀ i x, gt e i = some x → ∃ v, σ[i]? = some (some v) ∧ Ro K H G (P i) x.1 v x.2 (fp i)) (r : ArsR K H G' F σ as xs vs T) (hg : caGet as e xs = some ys)
    (sG : Same G' G) (hT : ∀ a, T a → G a = H a) : vs.length = as.length ∧ ys.length = as.length ∧ ∀ (k : Nat) (y : Vl), ys[k]? = some y → ∃ v : V, vs[k]? = some v ∧ Ro K H G (fun a => ∃ i, as[k]? = some (Ar.n i) ∧ P i a) y.1 v y.2 (fun a => ∃ i, as[k]? = some (Ar.n i) ∧ fp i a) := by
  induction r generalizing ys with
  | nil => cases hg; exact ⟨rfl, rfl, fun k y h => by simp at h⟩
  | @v c as x xs v vs T1 T2 ro rs dj ih =>
    have hg0 : (caGet as e xs).map ((.f, x.2) :: ·) = some ys := hg
    cases q : caGet as e xs with
    | none => rw [q] at hg0; cases hg0
    | some zs =>
      rw [q] at hg0
      cases hg0
      obtain ⟨l1, l2, h⟩ := ih q fun a z => hT a (.inr z)
      refine ⟨by simp [l1], by simp [l2], fun k y hk => ?_⟩
      cases k with
      | zero =>
        simp at hk
        subst hk
        exact ⟨v, rfl, ro.frozen sG fun a z => hT a (.inl z)⟩
      | succ k => exact h k y (by simpa using hk)
  | @n i as xs v vs T hv rs ih =>
    have hg0 : (match gt e i with
      | some x => (caGet as e xs).map (x :: ·)
      | none => none) = some ys := hg
    cases g : gt e i with
    | none => rw [g] at hg0; cases hg0
    | some x =>
      rw [g] at hg0
      cases q : caGet as e xs with
      | none => simp only [q, Option.map_none] at hg0; cases hg0
      | some zs =>
        simp only [q, Option.map_some] at hg0
        cases hg0
        obtain ⟨l1, l2, h⟩ := ih q hT
        refine ⟨by simp [l1], by simp [l2], fun k y hk => ?_⟩
        cases k with
        | zero =>
          simp at hk
          subst hk
          obtain ⟨v', hv', ro⟩ := h1 i x g
          rw [hv] at hv'
          cases hv'
          refine ⟨v, rfl, ?_⟩
          obtain ⟨ow, d⟩ := x
          cases ow with
          | f => exact ro
          | l =>
            obtain ⟨a, xs, ds, w1, w2, w3, w4, w5⟩ := ro
            exact ⟨a, xs, ds, w1, w2, w3, w4, i, rfl, w5⟩
          | o =>
            obtain ⟨a, xs, ds, w1, w2, w3, w4, w5⟩ := ro
            exact ⟨a, xs, ds, w1, w2, w3, w4, i, rfl, w5⟩
          | b =>
            obtain ⟨a, b, xs, ys, ds, es, w1, w2, w3, w4, w5, w6, w7, w8, w9⟩ := ro
            exact ⟨a, b, xs, ys, ds, es, w1, w2, w3, w4, w5, w6, ⟨i, rfl, w7⟩, ⟨i, rfl, w8⟩, w9⟩
        | succ k => exact h k y (by simpa using hk)
end
end Ev
end

section
set_option Elab.async false
set_option linter.all false
set_option maxRecDepth 100000
set_option maxHeartbeats 1000000
/-! Calls of the table's functions. -/
namespace Ev
open PySem PySem.Spec PyProof.Rows L2
section
variable {X : Cx} {K : PySem.W.Frag} {EK : EKT} {W : WX} {cl : Cl} {G G' H H' : Hp} {P P' : Nat → Addr → Prop} {F F' T T' : Addr → Prop} {e e' : En} {σ σ' : L2.St} {Pr : List Nat} {D : Ends}
/-- which names are lent, once each, and where they come back -/
structure BackOk (as : List Ar) (io : List Nat) (back : List (Nat × Nat)) : Prop where
  one : ∀ (k l i : Nat), as[k]? = some (Ar.n i) → as[l]? = some (Ar.n i) → k = l
  to : ∀ (k i : Nat), as[k]? = some (Ar.n i) → ∃ j, (i, j) ∈ back ∧ io[j]? = some k
  of : ∀ (i j : Nat), (i, j) ∈ back → ∃ k, io[j]? = some k ∧ as[k]? = some (Ar.n i)
  nd : (back.map (·.1)).Nodup
def arN : Ar → Option Nat
  | .n i => some i
  | .v _ => none
def backB (ns : List (Option Nat)) (io : List Nat) (back : List (Nat × Nat)) : Bool :=
  (List.range ns.length).all (fun k => match ns[k]? with
    | some (some i) => (List.range ns.length).all (fun l => match ns[l]? with
      | some (some j) => if i = j then k == l else true
      | _ => true) && back.any fun p => p.1 == i && io[p.2]? == some k
    | _ => true) && back.all (fun p => match io[p.2]? with
    | some k => ns[k]? == some (some p.1)
    | none => false) && decide (back.map (·.1)).Nodup
theorem backB_ok {as : List Ar} {io : List Nat} {back : List (Nat × Nat)} (h : backB (as.map arN) io back = true) : BackOk as io back := by
  have at_ : ∀ {k i : Nat}, as[k]? = some (Ar.n i) ↔ (as.map arN)[k]? = some (some i) := fun {k i} => by
    rw [List.getElem?_map]
    cases q : as[k]? with
    | none => simp
    | some a => cases a <;> simp [arN]
  unfold backB at h
  rw [Bool.and_eq_true, Bool.and_eq_true, List.all_eq_true, List.all_eq_true] at h
  obtain ⟨⟨h1, h2⟩, h3⟩ := h
  have lt : ∀ {k i : Nat}, as[k]? = some (Ar.n i) → k ∈ List.range (as.map arN).length := fun {k i} q => by
    have := (List.getElem?_eq_some_iff.mp q).1
    simpa using this
  refine ⟨fun k l i a b => ?_, fun k i a => ?_, fun i j a => ?_, of_decide_eq_true h3⟩
  · have z := h1 k (lt a)
    rw [at_.mp a] at z
    simp only [Bool.and_eq_true, List.all_eq_true] at z
    have z2 := z.1 l (lt b)
    rw [at_.mp b] at z2
    simpa using z2
  · have z := h1 k (lt a)
    rw [at_.mp a] at z
    simp only [Bool.and_eq_true, List.any_eq_true] at z
    obtain ⟨p, hp, q⟩ := z.2
    simp at q
    exact ⟨p.2, by rw [← q.1]; exact hp, q.2⟩
  · have z := h2 (i, j) a
    simp only at z
    cases q : io[j]? with
    | none => rw [q] at z; cases z
    | some k =>
      rw [q] at z
      exact ⟨k, rfl, at_.mpr (by simpa using z)⟩
/-- behind a call -/
theorem caBack_at : ∀ {back : List (Nat × Nat)} {fs : List Vl} {e e' : En}, caBack back fs e = some e' → (back.map (·.1)).Nodup → e'.length = e.length ∧ (∀ i, (∀ j, (i, j) ∉ back) → gt e' i = gt e i) ∧
    ∀ i j, (i, j) ∈ back → ∃ x f, gt e i = some x ∧ fs[j]? = some f ∧ gt e' i = if x.1 = .o ∨ x.1 = .b then some f else some x
  | [], fs, e, e', h, _ => by
    cases h
    exact ⟨rfl, fun _ _ => rfl, fun i j z => by cases z⟩
  | (i0, j0) :: r, fs, e, e', h, nd => by
    have nd2 := List.nodup_cons.mp nd
    have h0 : (match gt e i0, fs[j0]? with
      | some (.o, _), some f => (caBack r fs e).map fun e' => st e' i0 (some f)
      | some (.b, _), some f => (caBack r fs e).map fun e' => st e' i0 (some f)
      | some (.f, _), some _ => caBack r fs e
      | some (.l, _), some _ => caBack r fs e
      | _, _ => none) = some e' := h
    have nin : ∀ j, (i0, j) ∉ r := fun j z => nd2.1 (List.mem_map.mpr ⟨_, z, rfl⟩)
    cases g : gt e i0 with
    | none => rw [g] at h0; cases h0
    | some x =>
      obtain ⟨ow, d⟩ := x
      cases g2 : fs[j0]? with
      | none => rw [g, g2] at h0; cases ow <;> cases h0
      | some f =>
        rw [g, g2] at h0
        have keep : ∀ (q : caBack r fs e = some e') (no : ¬ (ow = .o ∨ ow = .b)), e'.length = e.length ∧ (∀ i, (∀ j, (i, j) ∉ (i0, j0) :: r) → gt e' i = gt e i) ∧
            ∀ i j, (i, j) ∈ (i0, j0) :: r → ∃ x f, gt e i = some x ∧ fs[j]? = some f ∧ gt e' i = if x.1 = .o ∨ x.1 = .b then some f else some x := fun q no => by
          obtain ⟨a1, a2, a3⟩ := caBack_at q nd2.2
          refine ⟨a1, fun i z => a2 i fun j w => z j (List.mem_cons_of_mem _ w), fun i j z => ?_⟩
          rcases List.mem_cons.mp z with z | z
          · cases z
            exact ⟨_, f, g, g2, by rw [a2 _ nin, g, if_neg no]⟩
          · exact a3 i j z
        have new : ∀ (q : (caBack r fs e).map (fun e' => st e' i0 (some f)) = some e') (yes : ow = .o ∨ ow = .b), e'.length = e.length ∧ (∀ i, (∀ j, (i, j) ∉ (i0, j0) :: r) → gt e' i = gt e i) ∧
            ∀ i j, (i, j) ∈ (i0, j0) :: r → ∃ x f, gt e i = some x ∧ fs[j]? = some f ∧ gt e' i = if x.1 = .o ∨ x.1 = .b then some f else some x := fun q yes => by
          cases q1 : caBack r fs e with
          | none => rw [q1] at q; cases q
          | some e1 =>
            rw [q1] at q
            cases q
            obtain ⟨a1, a2, a3⟩ := caBack_at q1 nd2.2
            have hl : i0 < e1.length := by rw [a1]; exact gt_lt g
            refine ⟨by rw [st_len, a1], fun i z => ?_, fun i j z => ?_⟩
            · rw [gt_st_ne fun w => z j0 (by rw [w]; exact List.mem_cons_self ..)]
              exact a2 i fun j w => z j (List.mem_cons_of_mem _ w)
            · rcases List.mem_cons.mp z with z | z
              · cases z
                exact ⟨_, f, g, g2, by rw [gt_st_same hl, if_pos yes]⟩
              · rw [gt_st_ne fun w => nin j (by rw [w]; exact z)]
                exact a3 i j z
        cases ow with
        | f => exact keep h0 (by simp)
        | l => exact keep h0 (by simp)
        | o => exact new h0 (by simp)
        | b => exact new h0 (by simp)
theorem caDrop_at : ∀ {back : List (Nat × Nat)} {e : En}, (caDrop back e).length = e.length ∧ ∀ i x, gt (caDrop back e) i = some x → gt e i = some x ∧ ∀ j, (i, j) ∉ back
  | [], e => ⟨rfl, fun i x h => ⟨h, fun _ z => by cases z⟩⟩
  | (i0, j0) :: r, e => by
    obtain ⟨a1, a2⟩ := caDrop_at (back := r) (e := e)
    refine ⟨(st_len ..).trans a1, fun i x h => ?_⟩
    have h0 : gt (st (caDrop r e) i0 none) i = some x := h
    by_cases q : i0 = i
    · subst q
      by_cases hl : i0 < (caDrop r e).length
      · rw [gt_st_same hl] at h0; cases h0
      · have := gt_lt h0
        rw [st_len] at this
        exact absurd this hl
    · rw [gt_st_ne q] at h0
      obtain ⟨b1, b2⟩ := a2 i x h0
      exact ⟨b1, fun j z => (List.mem_cons.mp z).elim (fun w => q (congrArg Prod.fst w).symm) (b2 j)⟩
theorem Ro.past {H1 G2 H3 G3 : Hp} {Pi Fc F3 T3 : Addr → Prop} {ow : Ow} {v : V} {d : PyData} (r : Ro K H1 G2 Pi ow v d T) (s : Stp H1 G2 Fc H3 G3 F3 T3) (hT : ow = .o ∨ ow = .b → ∀ a, T a → ¬ Fc a) (hP : ∀ a, Pi a → ¬ Fc a) : Ro K H3 G3 Pi ow v d (fun a => T a ∧ ¬ Fc a) := by
  cases ow with
  | f => exact Fz.mono s.sg r
  | l =>
    obtain ⟨a, xs, ds, h1, h2, h3, h4, h5⟩ := r
    exact ⟨a, xs, ds, h1, h2, s.fr a _ (hP a h5) h3, h4.mono s.sg, h5⟩
  | o =>
    obtain ⟨a, xs, ds, h1, h2, h3, h4, h5⟩ := r
    have z := hT (.inl rfl) a h5
    exact ⟨a, xs, ds, h1, h2, s.fr a _ z h3, h4.mono s.sg, h5, z⟩
  | b =>
    obtain ⟨a, b, xs, ys, ds, es, h1, h2, h3, h4, h5, h6, h7, h8, h9⟩ := r
    have z := hT (.inr rfl) a h7
    have z2 := hT (.inr rfl) b h8
    exact ⟨a, b, xs, ys, ds, es, h1, h2, s.fr a _ z h3, s.fr b _ z2 h4, h5.mono s.sg, h6.mono s.sg, ⟨h7, z⟩, ⟨h8, z2⟩, h9⟩
theorem Ro.imp {P1 P2 T2 : Addr → Prop} {ow : Ow} {v : V} {d : PyData} (r : Ro K H G P1 ow v d T) (hp : ∀ a, P1 a → P2 a) (hT : ∀ a, T a → T2 a) : Ro K H G P2 ow v d T2 := by
  cases ow with
  | f => exact r
  | l =>
    obtain ⟨a, xs, ds, h1, h2, h3, h4, h5⟩ := r
    exact ⟨a, xs, ds, h1, h2, h3, h4, hp a h5⟩
  | o =>
    obtain ⟨a, xs, ds, h1, h2, h3, h4, h5⟩ := r
    exact ⟨a, xs, ds, h1, h2, h3, h4, hT a h5⟩
  | b =>
    obtain ⟨a, b, xs, ys, ds, es, h1, h2, h3, h4, h5, h6, h7, h8, h9⟩ := r
    exact ⟨a, b, xs, ys, ds, es, h1, h2, h3, h4, h5, h6, hT a h7, hT b h8, h9⟩
theorem Stp.subF {F2 : Addr → Prop} (s : Stp H G F H' G' F' T) (h : ∀ a, F2 a → F' a) : Stp H G F H' G' F2 T :=
  ⟨s.sg, s.fr, s.gd, fun a q => s.fd a (q.imp_left (h a)), fun a q => s.dj a (h a q), s.tg, s.tl⟩
theorem te_call {f : Nat} {back : List (Nat × Nat)} {as : List Ar} {io : List Nat} {np : Nat} {Q : VK} (hnp : as.length = np) (hb : BackOk as io back) (h : rdE K EK W cl (cCall f back as) σ H Q) :
    tCallS (spF K EK (cl f) np io) (WE W) (rdAs K EK W cl as) σ H Q := by
  obtain ⟨e, G, F, P, x, h⟩ := h
  refine ⟨e, G, F, P, x, ?_⟩
  cases q : arRun as cl e with
  | no => simp only [cCall, q, R.bind] at h
  | ex n d e' => simp only [cCall, q, R.bind] at h; exact h
  | ok p =>
    obtain ⟨e1, xs0⟩ := p
    simp only [cCall, q, R.bind] at h
    intro vs H1 G1 F1 T1 x1 rs s1
    obtain ⟨x2, s2, sG, hT⟩ := frozen_all x x1 s1
    cases qg : caGet as e1 xs0 with
    | none => simp only [qg] at h
    | some xs =>
      simp only [qg] at h
      obtain ⟨fp, h1, h2, h3⟩ := x2.fp
      obtain ⟨l1, l2, hk⟩ := args_env h1 rs qg sG hT
      -- what the called one owns
      have Fc2 : ∀ a : Addr, (∃ k i : Nat, as[k]? = some (Ar.n i) ∧ fp i a) → F1 a := fun a z => by
        obtain ⟨k, i, z, w⟩ := z
        exact h2 i a w
      have nP : ∀ i a, P i a → ¬ (∃ k i : Nat, as[k]? = some (Ar.n i) ∧ fp i a) := fun i a z w => (x2.pv a ⟨i, z⟩).1 (Fc2 a w)
      have en : Env1 K (fun k a => ∃ i, as[k]? = some (Ar.n i) ∧ P i a) H1 (frz H1 G1 T1) (fun a => ∃ k i : Nat, as[k]? = some (Ar.n i) ∧ fp i a) (xs.map some) (vs.map some) :=
        ⟨fun a ⟨k, i, z, w⟩ => ⟨fun y => (x2.pv a ⟨i, w⟩).1 (Fc2 a y), (x2.pv a ⟨i, w⟩).2⟩, x2.sub, fun a z => x2.dis a (Fc2 a z), fun a z => x2.lv a (Fc2 a z), by simp [l1, l2],
          ⟨fun k a => ∃ i, as[k]? = some (Ar.n i) ∧ fp i a, fun k y hy => by
            rw [gt_map] at hy
            obtain ⟨v, hv, ro⟩ := hk k y hy
            exact ⟨v, by rw [List.getElem?_map, hv]; rfl, ro⟩, fun k a ⟨i, z, w⟩ => ⟨k, i, z, w⟩, fun k l a ⟨i, z, w⟩ ⟨j, z2, w2⟩ => by
            have : i = j := h3 i j a w w2
            subst this
            exact hb.one k l i z z2⟩⟩
      refine ⟨by rw [l1]; exact hnp, xs, _, _, _, en, ?_⟩
      cases qr : cl f xs with
      | no => simp only [qr] at h
      | ex n d e0 =>
        simp only [qr] at h
        intro H3 G3 F3 cls od sub3 s3 ek
        have s4 := s3.frame (Fa := F1) Fc2 fun a z => ⟨x2.lv a z, x2.dis a z⟩
        have s5 := s4.subF (F2 := fun a => F1 a ∧ ¬ (∃ k i : Nat, as[k]? = some (Ar.n i) ∧ fp i a)) fun a z => .inl z
        obtain ⟨d1, d2⟩ := caDrop_at (back := back) (e := e1)
        refine h H3 G3 _ cls od ⟨s5.pv x2.pv, sub3, fun a z => ?_, fun a z => ?_, d1.trans x2.len, fun i a => fp i a ∧ ¬ (∃ k i : Nat, as[k]? = some (Ar.n i) ∧ fp i a), fun i y hy => ?_, fun i a z => ⟨h2 i a z.1, z.2⟩, fun i j a z w => h3 i j a z.1 w.1⟩ (s2.trans0 s5) ek
        · cases qg : G3 a with
          | none => rfl
          | some o =>
            rcases s3.gd a (by rw [qg]; simp) with w | w | w
            · exact absurd (x2.dis a z.1) w
            · exact absurd w z.2
            · exact absurd w (x2.lv a z.1)
        · cases qh : H1 a with
          | none => exact absurd qh (x2.lv a z.1)
          | some o => rw [s3.fr a o z.2 qh]; simp
        · obtain ⟨g1, g2⟩ := d2 i y hy
          obtain ⟨v, hv, ro⟩ := h1 i y g1
          exact ⟨v, hv, ro.past s3 (fun _ a z ⟨k, j, w1, w2⟩ => by
            obtain ⟨jj, z3, z4⟩ := hb.to k j w1
            exact g2 jj (by rw [h3 i j a z w2]; exact z3)) (nP i)⟩
      | ok r =>
        obtain ⟨rv, fs⟩ := r
        simp only [qr] at h
        cases qb : caBack back fs e1 with
        | none => simp only [qb] at h
        | some e3 =>
          simp only [qb] at h
          intro v H3 G3 F3 T3 en3 rv3 s3
          have s4 := s3.frame (Fa := F1) Fc2 fun a z => ⟨x2.lv a z, x2.dis a z⟩
          obtain ⟨b1, b2, b3⟩ := caBack_at qb hb.nd
          obtain ⟨fp3, k1, k2, k3⟩ := en3.fp
          refine h v H3 G3 _ T3 ⟨s4.pv x2.pv, en3.sub, fun a z => ?_, fun a z => ?_, b1.trans x2.len, fun i a => (fp i a ∧ ¬ (∃ k i : Nat, as[k]? = some (Ar.n i) ∧ fp i a)) ∨ ∃ j, (i, j) ∈ back ∧ fp3 j a, fun i y hy => ?_, fun i a z => ?_, fun i j a z w => ?_⟩ rv3 (s2.trans0 s4)
          · rcases z with z | z
            · cases qg : G3 a with
              | none => rfl
              | some o =>
                rcases s3.gd a (by rw [qg]; simp) with w | w | w
                · exact absurd (x2.dis a z.1) w
                · exact absurd w z.2
                · exact absurd w (x2.lv a z.1)
            · exact en3.dis a z
          · rcases z with z | z
            · cases qh : H1 a with
              | none => exact absurd qh (x2.lv a z.1)
              | some o => rw [s3.fr a o z.2 qh]; simp
            · exact en3.lv a z
          · -- a slot
            by_cases hbk : ∃ j, (i, j) ∈ back
            · obtain ⟨j, hj⟩ := hbk
              obtain ⟨y0, f0, c1, c2, c3⟩ := b3 i j hj
              obtain ⟨v, hv, ro⟩ := h1 i y0 c1
              by_cases hown : y0.1 = .o ∨ y0.1 = .b
              · rw [if_pos hown] at c3
                rw [c3] at hy
                obtain rfl : f0 = y := Option.some.inj hy
                obtain ⟨w, hw, ro3⟩ := k1 j f0 (by rw [gt_map]; exact c2)
                obtain ⟨k, hk1, hk2⟩ := hb.of i j hj
                have hw2 : (io.map fun i => vs[i]?)[j]? = some vs[k]? := by rw [List.getElem?_map, hk1]; rfl
                rw [hw2] at hw
                have hw3 : vs[k]? = some w := Option.some.inj hw
                have ek : io.getD j 0 = k := by rw [List.getD_eq_getElem?_getD, hk1]; rfl
                refine ⟨w, ?_, ro3.imp (fun a z => ?_) fun a z => Or.inr ⟨j, hj, z⟩⟩
                · -- the same place
                  have : ∀ {as : List Ar} {xs0 : List (Option Vl)} {vs : List V} {T : Addr → Prop}, ArsR K H1 G1 F1 σ as xs0 vs T → ∀ (k : Nat) (w : V), as[k]? = some (Ar.n i) → vs[k]? = some w → σ[i]? = some (some w) := by
                    intro as xs0 vs T rs
                    induction rs with
                    | nil => intro k w z; simp at z
                    | v _ _ _ ih =>
                      intro k w z1 z2
                      cases k with
                      | zero => simp at z1
                      | succ k => exact ih k w (by simpa using z1) (by simpa using z2)
                    | n hv _ ih =>
                      intro k w z1 z2
                      cases k with
                      | zero =>
                        simp at z1 z2
                        rw [← z1, ← z2]
                        exact hv
                      | succ k => exact ih k w (by simpa using z1) (by simpa using z2)
                  exact this rs k w hk2 hw3
                · rw [ek] at z
                  obtain ⟨i', z1, z2⟩ := z
                  rw [hk2] at z1
                  cases z1
                  exact z2
              · rw [if_neg hown] at c3
                rw [c3] at hy
                obtain rfl : y0 = y := Option.some.inj hy
                exact ⟨v, hv, (ro.past s3 (fun z => absurd z hown) (nP i)).imp (fun _ z => z) fun _ z => Or.inl z⟩
            · have hj : ∀ j, (i, j) ∉ back := fun j z => hbk ⟨j, z⟩
              rw [b2 i hj] at hy
              obtain ⟨v, hv, ro⟩ := h1 i y hy
              exact ⟨v, hv, (ro.past s3 (fun _ a z ⟨k, j, w1, w2⟩ => by
                obtain ⟨jj, z3, z4⟩ := hb.to k j w1
                exact hj jj (by rw [h3 i j a z w2]; exact z3)) (nP i)).imp (fun _ z => z) fun _ z => Or.inl z⟩
          · rcases z with z | ⟨j, hj, z⟩
            · exact .inl ⟨h2 i a z.1, z.2⟩
            · exact .inr (k2 j a z)
          · have fresh : ∀ {i j a}, fp i a → ¬ (∃ k i : Nat, as[k]? = some (Ar.n i) ∧ fp i a) → fp3 j a → False := fun {i j a} z nz w => by
              rcases s3.fd a (.inl (k2 j a w)) with y | y
              · exact nz y
              · exact x2.lv a (h2 i a z) y
            rcases z with z | ⟨j1, hj1, z⟩ <;> rcases w with w | ⟨j2, hj2, w⟩
            · exact h3 i j a z.1 w.1
            · exact (fresh z.1 z.2 w).elim
            · exact (fresh w.1 w.2 z).elim
            · have : j1 = j2 := k3 j1 j2 a z w
              subst this
              obtain ⟨k, y1, y2⟩ := hb.of i j1 hj1
              obtain ⟨k', y3, y4⟩ := hb.of j j1 hj2
              rw [y1] at y3
              cases y3
              rw [y2] at y4
              cases y4
              rfl
end
end Ev
end

section
set_option Elab.async false
set_option linter.all false
set_option maxRecDepth 100000
set_option maxHeartbeats 1000000
/-! Functions of the table; keyword calls. -/
namespace Ev
open PySem PySem.Spec PyProof.Rows L2
section
variable {X : Cx} {K : PySem.W.Frag} {EK : EKT} {W : WX} {cl : Cl} {G G' H H' : Hp} {P P' : Nat → Addr → Prop} {F F' T T' : Addr → Prop} {e e' : En} {σ σ' : L2.St} {Pr : List Nat} {D : Ends}
theorem PS.nox {st : Stmt} {t : TS} (h : PS X.nox st t) : PS X st t := ⟨fun pins s σ H D I hw =>
  wpAny_mono (h.run pins s σ H D (I.wish _) hw) (fun _ _ q => q.unwish) fun _ _ z => False.elim z⟩
theorem gt_pad (xs : List Vl) (n i : Nat) (x : Vl) (h : gt (xs.map some ++ List.replicate n none) i = some x) : xs[i]? = some x := by
  induction xs generalizing i with
  | nil =>
    exfalso
    induction n generalizing i with
    | zero => cases h
    | succ n ih =>
      cases i with
      | zero => cases h
      | succ i => exact ih i h
  | cons y xs ih =>
    cases i with
    | zero => exact h
    | succ i => exact ih i h
theorem Env1.pad {xs : List Vl} {vs : List V} {n : Nat} (x : Env1 K P H G F (xs.map some) (vs.map some)) : Env1 K P H G F (xs.map some ++ List.replicate n none) (vs.map some ++ List.replicate n none) := by
  obtain ⟨fp, h1, h2, h3⟩ := x.fp
  refine ⟨x.pv, x.sub, x.dis, x.lv, ?_, fp, fun i y q => ?_, h2, h3⟩
  · have := x.len
    simp at this
    simp [this]
  · have q2 := gt_pad xs n i y q
    obtain ⟨v, hv, ro⟩ := h1 i y (by rw [gt_map]; exact q2)
    exact ⟨v, List.getElem?_append_left (List.getElem?_eq_some_iff.mp hv).1 |>.trans hv, ro⟩
theorem finals_at : ∀ {io : List Nat} {e : En} {fs : List Vl}, finals e io = some fs → fs.length = io.length ∧ ∀ (j : Nat) (f : Vl), fs[j]? = some f → ∃ i, io[j]? = some i ∧ gt e i = some f
  | [], e, fs, h => by
    cases h
    exact ⟨rfl, fun j f z => by simp at z⟩
  | i :: r, e, fs, h => by
    have h0 : (match gt e i with
      | some x => (finals e r).map (x :: ·)
      | none => none) = some fs := h
    cases g : gt e i with
    | none => rw [g] at h0; cases h0
    | some x =>
      rw [g] at h0
      cases q : finals e r with
      | none => simp only [q, Option.map_none] at h0; cases h0
      | some gs =>
        simp only [q, Option.map_some] at h0
        cases h0
        obtain ⟨a1, a2⟩ := finals_at q
        refine ⟨by simp [a1], fun j f z => ?_⟩
        cases j with
        | zero =>
          simp at z
          subst z
          exact ⟨i, rfl, g⟩
        | succ j => exact a2 j f (by simpa using z)
theorem Env1.fin {vs : List V} {n : Nat} {io : List Nat} {fs : List Vl} (x : Env1 K P H G F e σ) (k : Keep io (vs.map some ++ List.replicate n none) σ) (nd : io.Nodup) (h : finals e io = some fs) :
    Env1 K (fun j => P (io.getD j 0)) H G F (fs.map some) (io.map fun i => vs[i]?) := by
  obtain ⟨fp, h1, h2, h3⟩ := x.fp
  obtain ⟨a1, a2⟩ := finals_at h
  refine ⟨fun a ⟨j, z⟩ => x.pv a ⟨_, z⟩, x.sub, x.dis, x.lv, by simp [a1], fun j a => ∃ i, io[j]? = some i ∧ fp i a, fun j f hf => ?_, fun j a ⟨i, _, z⟩ => h2 i a z, fun j1 j2 a ⟨i1, y1, z1⟩ ⟨i2, y2, z2⟩ => ?_⟩
  · rw [gt_map] at hf
    obtain ⟨i, hi, g⟩ := a2 j f hf
    obtain ⟨v, hv, ro⟩ := h1 i f g
    have hk := k i (List.mem_of_getElem? hi)
    rw [hv] at hk
    have hv2 : vs[i]? = some v := by
      by_cases hl : i < vs.length
      · rw [List.getElem?_append_left (by simpa using hl), List.getElem?_map] at hk
        cases q : vs[i]? with
        | none => rw [q] at hk; cases hk
        | some w => rw [q] at hk; cases hk; rfl
      · rw [List.getElem?_append_right (by simpa using hl), List.getElem?_replicate] at hk
        split at hk <;> cases hk
    refine ⟨v, by rw [List.getElem?_map, hi]; exact congrArg some hv2, ?_⟩
    have e0 : io.getD j 0 = i := by rw [List.getD_eq_getElem?_getD, hi]; rfl
    show Ro K H G (P (io.getD j 0)) f.1 v f.2 _
    rw [e0]
    exact ro.imp (fun _ z => z) fun a z => ⟨i, hi, z⟩
  · have := h3 i1 i2 a z1 z2
    subst this
    have l1 := (List.getElem?_eq_some_iff.mp y1).1
    exact (List.getElem?_inj l1 nd).mp (y1.trans y2.symm)
section
variable {Pg : Program} {w : World} {mg : Str → Option Value} {base : Heap} {x qual : Str} {params : Arguments} {body : List Stmt} {scope : Scope} {dvs : List V} {kws : List (Str × V)} {f : Addr} {fd : FuncData} {N ps : List Str} {k : Nat}
/-- a def's promise where no repr is under way -/
structure FnG (P : Program) (w : World) (K : PySem.W.Frag) (mg : Str → Option Value) (base : Heap) (CX : CXT) (k : Nat) (f : Addr) (fd : FuncData) (ps : List Str) (sp : Sp) : Prop where
  len : ∀ vs H Q E, sp vs H Q E → vs.length = ps.length
  run : ∀ (A : Around) (outer : List Env) (s : Shared) (H : Hp) (args : Args) (us : List Value) (vs : List V) (Q : VK) (E : XK), A.guards = some [] → Room k A → Env0 P w K mg base A outer s H → BindsTo s fd args (ps.zip us) → Vals vs us → sp vs H Q E →
    codeAny (model P w) A (.call (.ref f) args) (CR CX outer P w H s Q E) s
theorem fn_ok {fn : Fn} (F : FunD K x qual params body scope dvs kws f fd) (S : FnScope N ps scope) (hN : N.length = fn.ns) (hp : ps.length = fn.np) (hn : fn.np ≤ fn.ns) (nd : fn.io.Nodup)
    (hb : ∀ (cdv : Value) (A : Around) (outer : List Env) (s : Shared) (H : Hp) (E : XK), A.guards = some [] → Room k (A.deeper (envOfC qual scope s.heap.objs.size f cdv)) → Takes (cxOf (CX Pg w) Pg w K mg base N qual scope f cdv A outer s H E) (fun cls d _ H => E cls d H) →
      PSs (cxOf (CX Pg w) Pg w K mg base N qual scope f cdv A outer s H E) body (rdS K EK (fun cls d _ H => E cls d H) cl fn.io fn.body)) :
    FnG Pg w K mg base (CX Pg w) (k + 1) f fd ps (spF K EK (fnRun fn cl) fn.np fn.io) := by
  obtain ⟨oc, od, dV, kV, doc, pm, an, cdv, ct, osl, rfl, lk, hcd, _, _⟩ := F.ex
  refine ⟨fun vs H Q E h => by rw [hp]; exact h.1, fun A outer s H args us vs Q E hg hr e0 hbd r h => ?_⟩
  have KX : K.In s.heap := e0.mod.kin.keeps fun b o e => (e0.bs b o e).1
  have lim : s.heap.NoLimit := e0.mod.nolimit.keeps fun b o e => (e0.bs b o e).1
  have kinds : ∀ y ∈ ps.zip us, scope.names.lookup y.1 = some .local ∨ (scope.names.lookup y.1 = some .cell ∧ ((cellsFrom (s.heap.objs.size + 1) scope.names []).lookup y.1).isSome = true) := fun ⟨n, v⟩ hy =>
    (S.par n (List.of_mem_zip hy).1).imp_right fun q => ⟨q, PySem.W.cellsFrom_some _ _ _ (.inl q)⟩
  have hl : vs.length = fn.np := h.1
  refine codeAny_call_function hr.depth (KX _ _ lk) rfl S.co S.gen rfl (PySem.W.codeRec_of KX hcd) (hbd _ _ _ _ ?_)
  refine wpAny_newFunctionEnv_cells S.kind kinds fun env he s1 z => ?_
  subst he
  refine ⟨lim.keeps z.toInCall.keep, codeAny_func ?_⟩
  have I : Inv (cxOf (CX Pg w) Pg w K mg base N qual scope f cdv A outer s H E) [] (L2.start N vs) H s1 := inv_start S hr.hd e0 (hl.trans hp.symm) r z
  have body := hb cdv A outer s H E hg (hr.deeper _) (takes_of rfl rfl rfl rfl)
  have want : rdS K EK (fun cls d _ H => E cls d H) cl fn.io fn.body { nx := fun _ H' => Q .non H', rt := Q } (L2.start N vs) H := by
    obtain ⟨_, xs, G, F0, P, en, h⟩ := h
    have hx : xs.length = fn.np := by
      have := en.len
      simp at this
      omega
    unfold fnRun at h
    rw [if_pos hx] at h
    have hst : L2.start N vs = vs.map some ++ List.replicate (fn.ns - fn.np) none := by
      unfold L2.start
      rw [hN, hl]
    rw [hst]
    refine ⟨_, G, F0, P, en.pad, ?_⟩
    cases q : fn.body cl (xs.map some ++ List.replicate (fn.ns - fn.np) none) with
    | no => simp only [q] at h
    | ex n d e' =>
      simp only [q] at h
      exact fun σ' H' G' F' cls od x s kk ek => h H' G' F' cls od x.sub s ek
    | ok p =>
      obtain ⟨e1, fl⟩ := p
      cases fl with
      | bk => simp only [q] at h
      | ct => simp only [q] at h
      | nx =>
        simp only [q] at h
        cases qf : finals e1 fn.io with
        | none => simp only [qf] at h
        | some fs =>
          simp only [qf] at h
          exact fun σ' H' G' F' x s kk => h .non H' G' F' NoA (x.fin kk nd qf) .non s
      | rt y =>
        simp only [q] at h
        cases qf : finals e1 fn.io with
        | none => simp only [qf] at h
        | some fs =>
          simp only [qf] at h
          exact fun v σ' H' G' F' T x r s kk => h v H' G' F' T (x.fin kk nd qf) r s
  refine wpAny_mono (body.run [] s1 (L2.start N vs) H _ I want) (fun fl s' hs => ?_) fun e s' hs => hs
  cases fl with
  | ret u =>
    obtain ⟨v, σ', H', J, rv, q⟩ := hs
    exact ⟨v, H', J.os, J.bare, J.base, J.hok, rv, q⟩
  | next =>
    obtain ⟨σ', H', J, q⟩ := hs
    exact ⟨V.non, H', J.os, J.bare, J.base, J.hok, rfl, q⟩
  | brk =>
    obtain ⟨_, _, _, q⟩ := hs
    exact q.elim
  | cont =>
    obtain ⟨_, _, _, q⟩ := hs
    exact q.elim
/-- no depth: nothing is promised -/
theorem fn_ok0 {np : Nat} {io : List Nat} : FnG Pg w K mg base (CX Pg w) k f fd ps (spF K EK (fun _ => .no) np io) :=
  ⟨fun vs H Q E h => (by obtain ⟨_, xs, G, F, P, _, h⟩ := h; exact h.elim), fun A outer s H args us vs Q E _ _ _ _ _ h => by obtain ⟨_, xs, G, F, P, _, h⟩ := h; exact h.elim⟩
end
section
variable {k : Nat} {f : Addr} {fd : FuncData} {ps : List Str} {sp : Sp} {E : L2.St → XK} {x : Str} {p pos : Pos} {ex : Expr} {es : List Expr} {t : TA} {CX : CXT}
theorem run_G {pins : List (Addr × Obj)} {σ : L2.St} {H : Hp} {s : Shared} {Q : VK} {us : List Value} {vs : List V} (Fo : FnG X.prog X.w X.K X.mg X.base CX k f fd ps sp) (hgd : X.A.guards = some []) (hr : Room k X.A) (hb : Binds X.K fd ps []) (hx : ∀ σ, PassesAt CX X σ (E σ))
    (I : Inv X pins σ H s) (r : Vals vs us) (q : sp vs H Q (E σ)) : wpAny (model X.prog X.w) X.A (call (.ref f) us) (EP X pins σ Q) X.xe s := by
  have hl : us.length = ps.length := by rw [← r.length]; exact Fo.len _ _ _ _ q
  have b := hb s us I.kIn (by rw [List.append_nil]; exact hl)
  rw [List.append_nil] at b
  refine wpAny_call (codeAny_mono (Fo.run X.A X.stack s H ⟨us, []⟩ us vs Q (E σ) hgd hr I.env0 b r q) fun r s' hq => ?_)
  cases r with
  | error e => exact hx σ pins H s e s' I hq
  | ok fl =>
    cases fl with
    | ret u => exact I.after hq
    | next => exact hq.elim
    | brk => exact hq.elim
    | cont => exact hq.elim
/-- f(e, ..) -/
theorem pe_callG (Fo : FnG X.prog X.w X.K X.mg X.base CX k f fd ps sp) (hgd : X.A.guards = some []) (hr : Room k X.A) (hg : Gl X x) (hm : X.mg x = some (.ref f)) (hk : PySem.W.keepIn X.K (.ref f) = true) (hb : Binds X.K fd ps []) (hx : ∀ σ, PassesAt CX X σ (E σ))
    (ha : PA X (ex :: es) t) (hdb : (x == ("__debug__" : Str)) = false := by decide) (he : starEach (ex :: es) X.env = (false, eval ex X.env) :: starEach es X.env := by rfl) (hpl : (backTo pos (starEach es X.env)).any (·.1) = false := by rfl) :
    PE X (.Call (.Name x p) (ex :: es) [] pos) (tCallS sp E t) := by
  refine ⟨fun pins s σ H Q I h => ?_⟩
  refine wpAny_Call_Name_kw (ld_glob I hg hm ?_ hdb)
  exact PySem.W.callWith_K (h₀ := X.base) I.ok.mod.kin hk (thn (ha.run pos pins s σ H _ I h) fun us s1 ⟨vs, H1, I1, r, q⟩ => ⟨I1.kIn, run_G Fo hgd hr hb hx I1 r q⟩) he hpl
/-- f() -/
theorem pe_callG0 (Fo : FnG X.prog X.w X.K X.mg X.base CX k f fd ps sp) (hgd : X.A.guards = some []) (hr : Room k X.A) (hg : Gl X x) (hm : X.mg x = some (.ref f)) (hk : PySem.W.keepIn X.K (.ref f) = true) (hb : Binds X.K fd ps []) (hx : ∀ σ, PassesAt CX X σ (E σ))
    (hdb : (x == ("__debug__" : Str)) = false := by decide) :
    PE X (.Call (.Name x p) [] [] pos) (tCallS sp E tNil) := by
  refine ⟨fun pins s σ H Q I h => ?_⟩
  refine wpAny_Call_Name_kw (ld_glob I hg hm ?_ hdb)
  exact PySem.W.callWith_K0 I.kIn hk (run_G (us := []) Fo hgd hr hb hx I .nil h)
end
end
end Ev
end

section
set_option Elab.async false
set_option linter.all false
set_option maxRecDepth 100000
set_option maxHeartbeats 1000000
/-! Keyword calls. -/
namespace Ev
open PySem PySem.Spec PyProof.Rows L2
section
variable {X : Cx} {K : PySem.W.Frag} {EK : EKT} {W : WX} {cl : Cl} {G G' H H' : Hp} {P P' : Nat → Addr → Prop} {F F' T T' : Addr → Prop} {e e' : En} {σ σ' : L2.St} {Pr : List Nat} {D : Ends}
structure KB0 (fd : FuncData) (ps ks : List Str) (perm : List Nat) : Prop where
  to : ∀ (s : Shared) (ws : List Value), ws.length = ks.length → BindsTo s fd ⟨[], ks.zip ws⟩ (ps.zip (perm.map fun k => ws.getD k .none))
  lt : ∀ k ∈ perm, k < ks.length
def tCallK0 (sp : Sp) (m : Nat) (perm : List Nat) (E : L2.St → XK) (tk : TA) : TE := fun σ H Q => tk σ H fun zs H1 => zs.length = m ∧ sp (perm.map fun k => zs.getD k .non) H1 Q (E σ)
theorem Vals.at {zs : List V} {ws : List Value} (r : Vals zs ws) : ∀ (k : Nat), k < zs.length → RelV (zs.getD k .non) (ws.getD k .none) := by
  induction r with
  | nil => intro k h; simp at h
  | cons a b ih =>
    intro k h
    cases k with
    | zero => exact a
    | succ k => exact ih k (by simpa using h)
theorem Vals.perm {zs : List V} {ws : List Value} (r : Vals zs ws) : ∀ (perm : List Nat), (∀ k ∈ perm, k < zs.length) → Vals (perm.map fun k => zs.getD k .non) (perm.map fun k => ws.getD k .none)
  | [], _ => .nil
  | k :: p, h => .cons (Vals.at r k (h k (List.mem_cons_self ..))) (Vals.perm r p fun j hj => h j (List.mem_cons_of_mem _ hj))
theorem pe_callK0 {CX : CXT} {k : Nat} {f : Addr} {fd : FuncData} {ps ks : List Str} {perm : List Nat} {sp : Sp} {E : L2.St → XK} {x : Str} {p pos : Pos} {kws : List Keyword} {tk : TA}
    (Fo : FnG X.prog X.w X.K X.mg X.base CX k f fd ps sp) (hgd : X.A.guards = some []) (hr : Room k X.A) (hg : Gl X x) (hm : X.mg x = some (.ref f)) (hk : PySem.W.keepIn X.K (.ref f) = true) (hb : KB0 fd ps ks perm) (hx : ∀ σ, PassesAt CX X σ (E σ))
    (hkw : PK X kws tk) (hall : (backToKw pos (keywordEach kws X.env)).all (·.1.isSome) = true := by rfl) (hks : (backToKw pos (keywordEach kws X.env)).filterMap (·.1) = ks := by rfl)
    (hdb : (x == ("__debug__" : Str)) = false := by decide) (hpl : ((backTo pos (starEach [] X.env)).any (·.1) || (backToKw pos (keywordEach kws X.env)).any (·.1.isNone)) = false := by rfl) :
    PE X (.Call (.Name x p) [] kws pos) (tCallK0 sp ks.length perm E tk) := by
  refine ⟨fun pins s σ H Q I h => ?_⟩
  refine wpAny_Call_Name_kw (ld_glob I hg hm ?_ hdb)
  refine PySem.W.callWith_KW0 (h₀ := X.base) I.ok.mod.kin hk hall (thn (hkw.run pos pins s σ H _ I h) fun ws s1 ⟨zs, H1, I1, r, l1, q⟩ => ⟨I1.kIn, ?_⟩) hpl
  rw [hks]
  have r2 := Vals.perm r perm fun k hk => by rw [l1]; exact hb.lt k hk
  refine wpAny_call (codeAny_mono (Fo.run X.A X.stack s1 H1 ⟨[], ks.zip ws⟩ _ _ Q (E σ) hgd hr I1.env0 (hb.to s1 ws (r.length.symm.trans l1)) r2 q) fun r s' hq => ?_)
  cases r with
  | error e => exact hx σ pins H1 s1 e s' I1 hq
  | ok fl =>
    cases fl with
    | ret u => exact I1.after hq
    | next => exact False.elim hq
    | brk => exact False.elim hq
    | cont => exact False.elim hq
theorem te_callK {f : Nat} {perm : List Nat} {cs : List CE} {io : List Nat} {np : Nat} {Q : VK} (hnp : perm.length = np) (hlt : ∀ k ∈ perm, k < cs.length) (h : rdE K EK W cl (cCallK f perm cs) σ H Q) :
    tCallK0 (spF K EK (cl f) np io) cs.length perm (WE W) (rdEs K EK W cl cs) σ H Q := by
  obtain ⟨e, G, F, P, x, h⟩ := h
  refine ⟨e, G, F, P, x, ?_⟩
  cases q : esRun cs cl e with
  | no => simp only [cCallK, q, R.bind] at h
  | ex n d e' => simp only [cCallK, q, R.bind] at h; exact h
  | ok p =>
    obtain ⟨e1, xs⟩ := p
    simp only [cCallK, q, R.bind] at h
    intro vs H1 G1 F1 T1 x1 rs s1
    obtain ⟨x2, s2, sG, hT⟩ := frozen_all x x1 s1
    have hl : vs.length = xs.length := rs.len
    have hl2 : xs.length = cs.length := esRun_len (e' := e1) q
    refine ⟨hl.trans hl2, by simpa using hnp, perm.map fun k => (Ow.f, (xs.getD k (.f, .none)).2), frz H1 G1 T1, NoA, fun _ _ => False, ?_, ?_⟩
    · have fz := rs.fz _ sG hT
      refine ⟨fun a z => z.elim fun _ w => w.elim, x2.sub, fun _ z => z.elim, fun _ z => z.elim, by simp, fun _ _ => False, fun i y hy => ?_, fun _ _ z => z, fun _ _ _ z => z.elim⟩
      rw [gt_map, List.getElem?_map] at hy
      cases qp : perm[i]? with
      | none => rw [qp] at hy; cases hy
      | some k =>
        rw [qp] at hy
        cases hy
        have hk := hlt k (List.mem_of_getElem? qp)
        refine ⟨vs.getD k .non, by rw [List.getElem?_map, List.getElem?_map, qp]; rfl, ?_⟩
        have e1 : vs[k]? = some (vs.getD k .non) := by
          have : k < vs.length := by omega
          rw [List.getD_eq_getElem?_getD, List.getElem?_eq_getElem this]; rfl
        have e2 : (xs.map (·.2))[k]? = some (xs.getD k (.f, .none)).2 := by
          have : k < xs.length := by omega
          rw [List.getElem?_map, List.getD_eq_getElem?_getD, List.getElem?_eq_getElem this]; rfl
        exact fz.at_ k _ _ e1 e2
    · have back : ∀ {H3 G3 : Hp} {F3 T3 : Addr → Prop}, Same G3 H3 → Stp H1 (frz H1 G1 T1) NoA H3 G3 F3 T3 → Env1 K P H3 G3 F1 e1 σ ∧ Stp H G F H3 G3 F1 T3 := fun {H3 G3 F3 T3} sub3 s3 => by
        have s4 := (s3.frame (Fa := F1) (fun a z => z.elim) fun a z => ⟨x2.lv a z, x2.dis a z⟩).subF (F2 := F1) fun a z => .inl ⟨z, fun w => w⟩
        obtain ⟨fp, h1, h2, h3⟩ := x2.fp
        refine ⟨⟨s4.pv x2.pv, sub3, fun a z => ?_, fun a z => ?_, x2.len, fp, fun i y hy => ?_, h2, h3⟩, s2.trans0 s4⟩
        · cases qg : G3 a with
          | none => rfl
          | some o =>
            rcases s3.gd a (by rw [qg]; simp) with w | w | w
            · exact absurd (x2.dis a z) w
            · exact w.elim
            · exact absurd w (x2.lv a z)
        · cases qh : H1 a with
          | none => exact absurd qh (x2.lv a z)
          | some o => rw [s3.fr a o (fun w => w) qh]; simp
        · obtain ⟨v, hv, ro⟩ := h1 i y hy
          exact ⟨v, hv, (ro.past s3 (fun _ _ _ w => w) fun _ _ w => w).imp (fun _ z => z) fun _ z => z.1⟩
      cases qr : cl f (perm.map fun k => (Ow.f, (xs.getD k (.f, .none)).2)) with
      | no => simp only [qr] at h
      | ex n d e0 =>
        simp only [qr] at h
        intro H3 G3 F3 cls od sub3 s3 ek
        obtain ⟨a1, a2⟩ := back sub3 s3
        exact h H3 G3 F1 cls od a1 a2 ek
      | ok r =>
        obtain ⟨rv, fs⟩ := r
        simp only [qr] at h
        intro v H3 G3 F3 T3 en3 rv3 s3
        obtain ⟨a1, a2⟩ := back en3.sub s3
        exact h v H3 G3 F1 T3 a1 rv3 a2
end
section
variable {K : PySem.W.Frag} {x qual : Str} {params : Arguments} {body : List Stmt} {scope : Scope} {kws : List (Str × V)} {f : Addr} {fd : FuncData} {ps ks : List Str} {perm : List Nat}
theorem FunD_kb0 (F : FunD K x qual params body scope [] kws f fd) (hlt : ∀ k ∈ perm, k < ks.length)
    (h : ∀ (kV doc pm : Value) (an : Option Addr) (cdv ct : Value) (ws : List Value), ws.length = ks.length → bindArgs (PySem.W.fnOf x qual params body scope .none kV doc pm an cdv ct) ⟨[], ks.zip ws⟩ = pure (ps.zip (perm.map fun k => ws.getD k .none))) : KB0 fd ps ks perm := by
  obtain ⟨oc, od, dV, kV, doc, pm, an, cdv, ct, osl, rfl, lk, hcd, hD, hK⟩ := F.ex
  rcases hD with ⟨_, rfl⟩ | ⟨e, _⟩
  · exact ⟨fun s ws hl => .of_eq (h kV doc pm an cdv ct ws hl), hlt⟩
  · exact absurd rfl e
end
end Ev
end

section
set_option Elab.async false
set_option linter.all false
set_option maxRecDepth 100000
set_option maxHeartbeats 1000000
/-! What is walked: lists, tuples, strs, pairs of these. -/
namespace PySem
open Sem (wp)
open AutoSeq1 (wpAny_loadPart')
theorem ev_meets_enumerate_new1 {v : Value} {o : Obj} {H : Heap → Prop} (B : Begins v o H) :
    Meets (Builtin.«enumerate.__new__» ⟨[.type "enumerate", v], []⟩) (fun _ R s => H s.heap ∧
      R (.ok (.ret (.ref (s.heap.push o).objs.size))) { s with heap := (s.heap.push o).push { cls := .type "enumerate", data := .fields #[.none, .bool false, .ref s.heap.objs.size, rawInt 0, .none, .none] } }) :=
  .of_wp fun prog w A R s h => by
    obtain ⟨hp, g, d, tk, os⟩ := s; obtain ⟨h1, h⟩ := h
    have hsub := sub_enumerate
    have q1 : ∀ {A' : Around} {E : Value → Shared → Prop} {Q : Value → Shared → Prop}, Q (.ref hp.objs.size) ⟨hp.push o, g, d, tk, os⟩ → wpAny (model prog w) A' (pyIter v) Q E ⟨hp, g, d, tk, os⟩ :=
      fun q => B.iter prog w _ _ ⟨hp, g, d, tk, os⟩ _ h1 q
    wp_walk using q1
    refine wpAny_stack_any fun st => wpAny_pure ?_
    split
    · rename_i c _ _ _ _ _
      cases (c == Value.type "enumerate")
      · wp_walk using q1
        exact ⟨_, rfl, h⟩
      · wp_walk using q1
        exact ⟨_, rfl, h⟩
    · wp_walk using q1
      exact ⟨_, rfl, h⟩
section
variable {prog : Program} {w : World} {A : Around} {E : Value → Shared → Prop} {s : Shared}
theorem ev_enum_begins {v : Value} {o : Obj} {H : Heap → Prop} {Q : Value → Shared → Prop} (B : Begins v o H) (h1 : H s.heap)
    (h : ∀ h', IsEnum h' (s.heap.objs.size + 1) s.heap.objs.size 0 .none → h'.get? s.heap.objs.size = some o → h'.objs.size = s.heap.objs.size + 2 →
      (∀ b o, s.heap.get? b = some o → h'.get? b = some o) → Q (.ref (s.heap.objs.size + 1)) { s with heap := h' }) :
    wpAny (model prog w) A (call (.type "enumerate") [v]) Q E s := by
  refine callType_new F.called_enumerate (by decide) (F.typeCall_enumerate_1 _) (F.newCall_enumerate_1 _) (fun obj => F.args_object_init_2 obj _) F.entry_enumerate_new
    (ev_meets_enumerate_new1 B) ⟨h1, ?_⟩
  have hz : (s.heap.push o).objs.size = s.heap.objs.size + 1 := Heap.size_push ..
  show _ ∧ _
  rw [hz]
  have he : IsEnum ((s.heap.push o).push { cls := .type "enumerate", data := .fields #[.none, .bool false, .ref s.heap.objs.size, rawInt 0, .none, .none] }) (s.heap.objs.size + 1) s.heap.objs.size 0 .none := by
    have := Heap.get?_push_size (s.heap.push o) (o := { cls := .type "enumerate", data := .fields #[.none, .bool false, .ref s.heap.objs.size, rawInt 0, .none, .none] }) rfl
    rw [hz] at this; exact this
  refine ⟨⟨_, he, rfl⟩, h _ he (Heap.get?_push_of_some _ (Heap.get?_push_size _ B.free)) (by rw [Heap.size_push, hz]) fun b o x => Heap.get?_push_of_some _ (Heap.get?_push_of_some _ x)⟩
end
end PySem
namespace Ev
open PySem PySem.Spec PyProof.Rows L2
theorem vals_back {xs : List V} {its : List Value} (rv : Vals xs its) {i : Nat} {u : Value} (h : its[i]? = some u) : ∃ x, xs[i]? = some x ∧ RelV x u := by
  have hl := rv.length
  have hi := (List.getElem?_eq_some_iff.mp h).1
  have hx : xs[i]? = some xs[i] := by simp
  obtain ⟨u', hu', r⟩ := rv.get hx
  rw [h] at hu'
  cases hu'
  exact ⟨_, hx, r⟩
theorem addr_ne {n m : Nat} (h : n ≠ m) : (n : Addr) ≠ (m : Addr) := h
/-- what an iterator goes over -/
inductive Sk where
  | l (a : Addr)
  | t (a : Addr)
  | s (z : Str)
def Sk.val : Sk → V
  | .l a => .ref a
  | .t a => .ref a
  | .s z => .str z
def Sk.rd (K : PySem.W.Frag) (H : Hp) : Sk → List V → Prop
  | .l a, xs => SqL K H a xs
  | .t a, xs => SqT K H a xs
  | .s z, xs => xs = z.cps.toList.map fun c => V.str ⟨#[c]⟩
def Sk.adr : Sk → Option Addr
  | .l a => some a
  | .t a => some a
  | .s _ => none
def Sk.sti (it : Addr) (tk : Tok) : Sk → Nat → Heap → Prop
  | .l a, i, h => h.IsListIter it a i
  | .t a, i, h => h.IsTupleIter it a i
  | .s z, i, h => h.IsStrIter it (strIterType z) z tk i
theorem Sk.obj {k : Sk} {it : Addr} {tk : Tok} {i : Nat} {h : Heap} (st : k.sti it tk i h) : ∃ o, h.get? it = some o ∧ ∀ v, o.data ≠ .cell v := by
  cases k with
  | l a => obtain ⟨o, ho, hc, hd⟩ := st; exact ⟨o, ho, fun v q => by rw [hd] at q; cases q⟩
  | t a => obtain ⟨o, ho, hc, hd⟩ := st; exact ⟨o, ho, fun v q => by rw [hd] at q; cases q⟩
  | s z => obtain ⟨o, ho, hc, hd⟩ := st; exact ⟨o, ho, fun v q => by rw [hd] at q; cases q⟩
theorem Sk.keep {k : Sk} {it : Addr} {tk : Tok} {i : Nat} {h h' : Heap} (st : k.sti it tk i h) (q : ∀ o, h.get? it = some o → h'.get? it = some o) : k.sti it tk i h' := by
  cases k with
  | l a => obtain ⟨o, ho, r⟩ := st; exact ⟨o, q o ho, r⟩
  | t a => obtain ⟨o, ho, r⟩ := st; exact ⟨o, q o ho, r⟩
  | s z => obtain ⟨o, ho, r⟩ := st; exact ⟨o, q o ho, r⟩
section
variable {X : Cx} {pins : List (Addr × Obj)} {σ : L2.St} {H : Hp} {s : Shared} {k : Sk} {xs ys : List V}
theorem Sk.inj (I : Inv X pins σ H s) (a : k.rd X.K H xs) (b : k.rd X.K H ys) : xs = ys := by
  cases k with
  | l a => exact I.list_inj a b
  | t a => exact I.tuple_inj a b
  | s z => exact a.trans b.symm
theorem Sk.lt (I : Inv X pins σ H s) (a : k.rd X.K H xs) : ∀ b, k.adr = some b → b < s.heap.objs.size := fun b e => by
  cases k with
  | l c => cases e; obtain ⟨its, rv, p, hz⟩ := I.list a; exact p.lt
  | t c =>
    cases e
    obtain ⟨its, rv, p, hz⟩ := I.tuple a
    obtain ⟨o, e, _⟩ := p
    exact Heap.lt_size e
  | s z => cases e
theorem Sk.draw (I : Inv X pins σ H s) (hc : X.calm = true) (a : k.rd X.K H xs) (it : Addr) (tk : Tok) (hit : k.adr ≠ some it) : ∃ fp P St, Draws X.prog X.w X.A.in1 it fp xs.length P St ∧ (∀ i, k.sti it tk i s.heap → St i s.heap) ∧
    (∀ i h, St i h → k.sti it tk i h) ∧ (∀ i u, P i u → ∃ x, xs[i]? = some x ∧ RelV x u) ∧ (∀ e ∈ fp, e = it ∨ k.adr = some e) ∧ it ∈ fp := by
  have hh : X.A.in1.handled = none := I.ok.hd hc
  cases k with
  | l c =>
    obtain ⟨its, rv, p, hz⟩ := I.list a
    refine ⟨[it, c], (fun i v => its.toArray[i]? = some v), (fun i h => h.IsListIter it c i ∧ h.IsList c its.toArray), by rw [show xs.length = its.toArray.size by simp [rv.length]]; exact Draws.list hh it c (fun q => hit (by rw [q]; rfl)) its.toArray, fun i st => ⟨st, p.isList⟩, fun i h st => st.1, fun i u hu => ?_, fun e he => ?_, by simp⟩
    · obtain ⟨x, hx, r⟩ := vals_back rv (by simpa using hu)
      exact ⟨x, hx, r⟩
    · have : e = it ∨ e = c := by simpa using he
      exact this.imp_right fun z => by rw [z]; rfl
  | t c =>
    obtain ⟨its, rv, p, hz⟩ := I.tuple a
    refine ⟨[it, c], (fun i v => its.toArray[i]? = some v), (fun i h => h.IsTupleIter it c i ∧ h.IsTuple c its.toArray), by rw [show xs.length = its.toArray.size by simp [rv.length]]; exact Draws.tuple hh it c (fun q => hit (by rw [q]; rfl)) its.toArray, fun i st => ⟨st, show s.heap.IsTuple c its.toArray from p⟩, fun i h st => st.1, fun i u hu => ?_, fun e he => ?_, by simp⟩
    · obtain ⟨x, hx, r⟩ := vals_back rv (by simpa using hu)
      exact ⟨x, hx, r⟩
    · have : e = it ∨ e = c := by simpa using he
      exact this.imp_right fun z => by rw [z]; rfl
  | s z =>
    have a : xs = z.cps.toList.map fun c => V.str ⟨#[c]⟩ := a
    refine ⟨_, _, _, by rw [show xs.length = z.cps.size by rw [a]; simp]; exact Draws.text hh it z tk, fun i st => st, fun i h st => st, fun i u hu => ?_, fun e he => ?_, by simp⟩
    · obtain ⟨c, t, hcx, rfl⟩ := hu
      refine ⟨.str ⟨#[c]⟩, ?_, ⟨t, rfl⟩⟩
      rw [a, List.getElem?_map, Array.getElem?_toList, hcx]
      rfl
    · exact .inl (by simpa using he)
theorem Sk.begins (I : Inv X pins σ H s) (a : k.rd X.K H xs) {u : Value} (r : RelV k.val u) : ∃ (o : Obj) (tk : Tok) (Hh : Heap → Prop), Begins u o Hh ∧ Hh s.heap ∧ ∀ (h' : Heap) (it : Addr), h'.get? it = some o → k.sti it tk 0 h' := by
  cases k with
  | l c =>
    cases r
    obtain ⟨its, rv, p, hz⟩ := I.list a
    exact ⟨_, 0, _, begins_list c its.toArray, p.isList, fun h' it e => ⟨_, e, rfl, rfl⟩⟩
  | t c =>
    cases r
    obtain ⟨its, rv, p, hz⟩ := I.tuple a
    exact ⟨_, 0, _, begins_tuple c its.toArray, (show s.heap.IsTuple c its.toArray from p), fun h' it e => ⟨_, e, rfl, rfl⟩⟩
  | s z =>
    obtain ⟨t, rfl⟩ := r
    exact ⟨_, t, _, begins_text z t, trivial, fun h' it e => ⟨_, e, rfl, rfl⟩⟩
end
/-! ### enumerate -/
def IteS (K : PySem.W.Frag) (k : Sk) (k0 : Int) : L2.It :=
  ⟨fun i H => ∃ (xs : List V) (x : V), k.rd K H xs ∧ xs[i]? = some x, fun i H v H' => ∃ T x, v = .ref T ∧ H T = none ∧ H' = upd H T (.tup [.int (k0 + (i : Nat)), x]) ∧ ∀ xs, k.rd K H xs → xs[i]? = some x, fun i H => ∃ xs : List V, k.rd K H xs ∧ xs.length = i⟩
theorem turn_enumS {P : Program} {w : World} {K : PySem.W.Frag} {elts : List Expr} {kk : Nat} {tpos : Pos} (k : Sk) (k0 : Int) (tk : Tok) (e it : Addr) (he1 : k.adr ≠ some e) (he2 : k.adr ≠ some it) :
    Turn P w K (.Tuple elts kk tpos) (IteS K k k0) [e, it] e (fun i h => (∃ old, IsEnum h e it (k0 + ((i : Nat) : Int)) old) ∧ k.sti it tk i h ∧ e ≠ it) where
  mem := by simp
  obj := fun i h st b hb => by
    obtain ⟨⟨old, he⟩, hi, _⟩ := st
    have e' : b = e ∨ b = it := by simpa using hb
    rcases e' with z | z
    · rw [z]; exact ⟨_, he, fun v q => nomatch q⟩
    · rw [z]; exact Sk.obj hi
  keep := fun i h h' st q => let ⟨⟨old, he⟩, hi, hne⟩ := st; ⟨⟨old, q e (by simp) _ he⟩, Sk.keep hi fun o z => q it (by simp) o z, hne⟩
  item := by
    intro X hP hw hK hc i pins s σ H E I hf st hg
    subst hP hw hK
    obtain ⟨⟨old, he⟩, hit, hne⟩ := st
    obtain ⟨xs, x, hq, hx⟩ := hg
    obtain ⟨fp, Pd, Sd, D, d1, d2, d3, d4, d5⟩ := Sk.draw I hc hq it tk he2
    have hel : e < s.heap.objs.size := Heap.lt_size he
    have hil : it < s.heap.objs.size := by obtain ⟨o, q, _⟩ := Sk.obj hit; exact Heap.lt_size q
    have hef : e ∉ fp := fun z => (d4 e z).elim hne he1
    refine wpAny_pyNext_enum_itemC D he (d1 i hit) (List.getElem?_eq_some_iff.mp hx).1 hne hef fun u h' tk' hP ho hit' hT hsz hk => ?_
    obtain ⟨x', hx', ru⟩ := d3 i u hP
    rw [hx] at hx'
    cases hx'
    refine ⟨_, rfl, wpAny_letOwnedTupleGo_enum (s := { s with heap := h', toks := tk' + 1 }) ho fun h'' he' sb => ?_⟩
    have hT2 : h''.get? s.heap.objs.size = some { cls := .type "tuple", data := .seq #[.int (k0 + ((i : Nat) : Int)) tk', u] } := (sb.2 _ (Nat.ne_of_gt hel)).trans hT
    have new : ObjOk X.prog X.w (upd H s.heap.objs.size (.tup [.int (k0 + (i : Nat)), x])) h'' s.heap.objs.size (.tup [.int (k0 + (i : Nat)), x]) :=
      ⟨by show 2 ≤ sizeLine; decide, [.int (k0 + ((i : Nat) : Int)) tk', u], .cons ⟨_, rfl⟩ (.cons ru .nil), ⟨_, hT2, rfl, _, rfl⟩⟩
    have I1 : Inv X pins σ (upd H s.heap.objs.size (.tup [.int (k0 + (i : Nat)), x])) { s with heap := h'', toks := tk' + 1 } :=
      I.turnedNew (ch := [e, it]) (fun b ob hb q => (sb.2 b (fun z => hb (by simp [z]))).trans (hk b ob (fun z => hb (by simp [z])) (fun z => hb (by simp [z])) q)) hf (Nat.le_refl _) new
    refine ⟨.ref s.heap.objs.size, _, I1, rfl, ⟨_, x, rfl, I.hok.fresh (Nat.le_refl _), rfl, fun ys hy => by rw [Sk.inj I hy hq]; exact hx⟩, ⟨⟨u, ?_⟩, Sk.keep (d2 _ _ hit') fun o q => (sb.2 it (Ne.symm hne)).trans q, hne⟩, fun b hb => ?_⟩
    · have e1 : k0 + ((i + 1 : Nat) : Int) = k0 + (i : Int) + 1 := by omega
      rw [e1]; exact he'
    · have hb' : b < s.heap.objs.size := by
        have e' : b = e ∨ b = it := by simpa using hb
        rcases e' with z | z
        · rw [z]; exact hel
        · rw [z]; exact hil
      rw [upd_ne (Nat.ne_of_lt hb')]
      exact (hf b hb).1
  done := by
    intro X hP hw hK hc i pins s σ H E I hf st hg
    subst hP hw hK
    obtain ⟨⟨old, he⟩, hit, hne⟩ := st
    obtain ⟨xs, hq, hx⟩ := hg
    obtain ⟨fp, Pd, Sd, D, d1, d2, d3, d4, d5⟩ := Sk.draw I hc hq it tk he2
    obtain ⟨f0, f1, f2, f3, f4, f5⟩ := hf it (by simp)
    subst hx
    exact wpAny_pyNext_enum_endD D he (d1 _ hit) fun h' eb => ⟨rfl, I.turned (t' := s.toks) (fun b o hb q => eb b o hb q) f0 f1 f3 f4 f5⟩
  self := fun A i s Q E st h => let ⟨⟨_, he⟩, _⟩ := st; wpAny_pyIter_enum he h
def iEnumS (K : PySem.W.Frag) (ta : TA) : TI := fun σ H R => ta σ H fun vs H1 => ∃ (k : Sk) (xs : List V), vs = [k.val] ∧ k.rd K H1 xs ∧ R (IteS K k 0) H1
def iEnumS2 (K : PySem.W.Frag) (ta : TA) : TI := fun σ H R => ta σ H fun vs H1 => ∃ (k : Sk) (k0 : Int) (xs : List V), vs = [k.val, .int k0] ∧ (-(2 ^ 63) ≤ k0 ∧ k0 < 2 ^ 63) ∧ k.rd K H1 xs ∧ R (IteS K k k0) H1
theorem pi_enumS {X : Cx} {e : Expr} {ta : TA} {p pos tpos : Pos} {elts : List Expr} {kk : Nat} (hg : Gl X "enumerate") (hm : X.mg "enumerate" = none) (ha : PA X [e] ta) (hs : starEach [e] X.env = [(false, eval e X.env)] := by rfl) :
    PI X (.Tuple elts kk tpos) (.Call (.Name "enumerate" p) [e] [] pos) (iEnumS X.K ta) := by
  refine ⟨fun pins s σ H R I h => ?_⟩
  refine Call_ (ld_blt I hg hm boot_enumerate (PyProof.Rows.callWith_type1 (thn (ha.run pos pins s σ H _ I h) fun us s1 ⟨vs, H1, I1, r1, q1⟩ => ?_) hs rfl))
  obtain ⟨k, xs, ex, hq, q⟩ := q1
  subst ex
  cases r1 with
  | cons r rr =>
    cases rr
    obtain ⟨o, tk, Hh, B, hH, b3⟩ := Sk.begins I1 hq r
    refine ev_enum_begins B hH fun h' he hit hsz hk => wpAny_pyIter_enum he ?_
    have I2 : Inv X pins σ H1 { s1 with heap := h' } := I1.kept (t' := s1.toks) hk
    have lt := Sk.lt I1 hq
    refine ⟨s1.heap.objs.size + 1, [s1.heap.objs.size + 1, s1.heap.objs.size], _, _, H1, rfl, I2, turn_enumS k 0 tk (s1.heap.objs.size + 1) s1.heap.objs.size (fun z => absurd (lt _ z) (Nat.not_lt.mpr (Nat.le_add_right _ _))) (fun z => absurd (lt _ z) (Nat.lt_irrefl _)), ⟨⟨.none, he⟩, b3 _ _ hit, Nat.succ_ne_self _⟩, fun b hb => ?_, q⟩
    have e' : b = s1.heap.objs.size + 1 ∨ b = s1.heap.objs.size := by simpa using hb
    have hle : s1.heap.objs.size ≤ b := by
      rcases e' with z | z
      · rw [z]; exact Nat.le_add_right _ _
      · rw [z]; exact Nat.le_refl _
    exact I1.fpOk hle (I1.hok.fresh hle)
/-! ### zip -/
def ItzS (K : PySem.W.Frag) (a b : Sk) : L2.It :=
  ⟨fun i H => ∃ (xs ys : List V) (x y : V), a.rd K H xs ∧ b.rd K H ys ∧ xs[i]? = some x ∧ ys[i]? = some y,
    fun i H v H' => ∃ T x y, v = .ref T ∧ H T = none ∧ H' = upd H T (.tup [x, y]) ∧ (∀ xs, a.rd K H xs → xs[i]? = some x) ∧ ∀ ys, b.rd K H ys → ys[i]? = some y,
    fun i H => ∃ xs ys : List V, a.rd K H xs ∧ b.rd K H ys ∧ i = min xs.length ys.length⟩
structure ZpS (z TI TO i1 i2 : Addr) (a b : Sk) : Prop where
  TIz : TI ≠ z
  TOz : TO ≠ z
  TITO : TI ≠ TO
  TIi1 : TI ≠ i1
  TIi2 : TI ≠ i2
  i1z : i1 ≠ z
  i2z : i2 ≠ z
  TO1 : TO ≠ i1
  TO2 : TO ≠ i2
  i12 : i1 ≠ i2
  ad : ∀ c, c = z ∨ c = TO ∨ c = i1 ∨ c = i2 → a.adr ≠ some c ∧ b.adr ≠ some c
theorem ZpS.sep {z TI TO i1 i2 : Addr} {a b : Sk} (S : ZpS z TI TO i1 i2 a b) {fp1 fp2 : List Addr} (h1 : ∀ e ∈ fp1, e = i1 ∨ a.adr = some e) (h2 : ∀ e ∈ fp2, e = i2 ∨ b.adr = some e) (m1 : i1 ∈ fp1) (m2 : i2 ∈ fp2) : ZipSep2 z TI TO i1 i2 fp1 fp2 :=
  ⟨S.TIz, S.TOz, S.TITO, S.TIi1, m1, fun q => (h1 _ q).elim (fun w => S.i1z w.symm) (S.ad z (.inl rfl)).1, fun q => (h1 _ q).elim S.TO1 (S.ad TO (.inr (.inl rfl))).1, S.TIi2, m2, fun q => (h2 _ q).elim (fun w => S.i2z w.symm) (S.ad z (.inl rfl)).2,
    fun q => (h2 _ q).elim S.TO2 (S.ad TO (.inr (.inl rfl))).2, fun q => (h2 _ q).elim S.i12 (S.ad i1 (.inr (.inr (.inl rfl)))).2, fun q => (h1 _ q).elim (fun w => S.i12 w.symm) (S.ad i2 (.inr (.inr (.inr rfl)))).1⟩
theorem ge_nat {c n : Nat} (h : c = n + 4 ∨ c = n + 3 ∨ c = n ∨ c = n + 1) : ¬ c < n := by omega
theorem zps (n : Nat) {a b : Sk} (la : ∀ c, a.adr = some c → c < n) (lb : ∀ c, b.adr = some c → c < n) : ZpS (n + 4) (n + 2) (n + 3) n (n + 1) a b := by
  have ge : ∀ c : Addr, c = n + 4 ∨ c = n + 3 ∨ c = n ∨ c = n + 1 → ¬ c < n := fun c h q => ge_nat (c := c) (n := n) h q
  exact ⟨addr_ne (by omega), addr_ne (by omega), addr_ne (by omega), addr_ne (by omega), addr_ne (by omega), addr_ne (by omega), addr_ne (by omega), addr_ne (by omega), addr_ne (by omega), addr_ne (by omega),
    fun c hc => ⟨fun q => ge c hc (la _ q), fun q => ge c hc (lb _ q)⟩⟩
theorem turn_zipS {P : Program} {w : World} {K : PySem.W.Frag} {elts : List Expr} {kk : Nat} {tpos : Pos} {a b : Sk} {z TI TO i1 i2 : Addr} (t1 t2 : Tok) (D : ZpS z TI TO i1 i2 a b) :
    Turn P w K (.Tuple elts kk tpos) (ItzS K a b) [z, TI, TO, i1, i2] z (fun i h => IsZip h z TI TO .none ∧ IsTupOf2 h TI (.ref i1) (.ref i2) ∧ (∃ x y, IsTupOf2 h TO x y) ∧ a.sti i1 t1 i h ∧ b.sti i2 t2 i h) where
  mem := by simp
  obj := fun i h st c hc => by
    obtain ⟨hz, hTI, ⟨x, y, hTO⟩, h1, h2⟩ := st
    have e' : c = z ∨ c = TI ∨ c = TO ∨ c = i1 ∨ c = i2 := by simpa using hc
    rcases e' with q | q | q | q | q
    · rw [q]; exact ⟨_, hz, fun v q => nomatch q⟩
    · rw [q]; exact ⟨_, hTI, fun v q => nomatch q⟩
    · rw [q]; exact ⟨_, hTO, fun v q => nomatch q⟩
    · rw [q]; exact Sk.obj h1
    · rw [q]; exact Sk.obj h2
  keep := fun i h h' st k => by
    obtain ⟨hz, hTI, ⟨x, y, hTO⟩, h1, h2⟩ := st
    exact ⟨k z (by simp) _ hz, k TI (by simp) _ hTI, ⟨x, y, k TO (by simp) _ hTO⟩, Sk.keep h1 fun o q => k i1 (by simp) o q, Sk.keep h2 fun o q => k i2 (by simp) o q⟩
  item := by
    intro X hP hw hK hc i pins s σ H E I hf st hg
    subst hP hw hK
    obtain ⟨hz, hTI, ⟨x0, y0, hTO⟩, h1, h2⟩ := st
    obtain ⟨xs, ys, x, y, hqx, hqy, hx, hy⟩ := hg
    obtain ⟨fp1, P1, S1, D1, a1, a2, a3, a4, a5⟩ := Sk.draw I hc hqx i1 t1 (D.ad i1 (by simp)).1
    obtain ⟨fp2, P2, S2, D2, b1, b2, b3, b4, b5⟩ := Sk.draw I hc hqy i2 t2 (D.ad i2 (by simp)).2
    have hzl : z < s.heap.objs.size := Heap.lt_size hz
    refine wpAny_pyNext_zipD2_item (D.sep a4 b4 a5 b5) D1 D2 hz hTI hTO (a1 i h1) (b1 i h2) (List.getElem?_eq_some_iff.mp hx).1 (List.getElem?_eq_some_iff.mp hy).1 fun u u2 h' tk' hu hu2 z' TO' h1' h2' hT hsz hk => ?_
    obtain ⟨x', hx', ru⟩ := a3 i u hu
    obtain ⟨y', hy', ru2⟩ := b3 i u2 hu2
    rw [hx] at hx'
    rw [hy] at hy'
    cases hx'
    cases hy'
    refine ⟨_, rfl, wpAny_letOwnedTupleGo_zip (s := { s with heap := h', toks := tk' }) z' fun h'' z'' sb => ?_⟩
    have hT2 : h''.get? s.heap.objs.size = some { cls := .type "tuple", data := .seq #[u, u2] } := (sb.2 _ (Nat.ne_of_gt hzl)).trans hT
    have new : ObjOk X.prog X.w (upd H s.heap.objs.size (.tup [x, y])) h'' s.heap.objs.size (.tup [x, y]) :=
      ⟨by show 2 ≤ sizeLine; decide, [u, u2], .cons ru (.cons ru2 .nil), ⟨_, hT2, rfl, _, rfl⟩⟩
    have I1 : Inv X pins σ (upd H s.heap.objs.size (.tup [x, y])) { s with heap := h'', toks := tk' } :=
      I.turnedNew (t' := tk') (ch := [z, TI, TO, i1, i2]) (fun c o hb q => (sb.2 c (fun q' => hb (by simp [q']))).trans (hk c o (fun q' => hb (by simp [q'])) (fun q' => hb (by simp [q'])) (fun q' => hb (by simp [q'])) (fun q' => hb (by simp [q'])) q)) hf (Nat.le_refl _) new
    refine ⟨.ref s.heap.objs.size, _, I1, rfl, ⟨_, x, y, rfl, I.hok.fresh (Nat.le_refl _), rfl, fun l hl => by rw [Sk.inj I hl hqx]; exact hx, fun l hl => by rw [Sk.inj I hl hqy]; exact hy⟩, ⟨z'', ?_, ⟨u, u2, ?_⟩, ?_, ?_⟩, fun c hcm => ?_⟩
    · exact (sb.2 _ D.TIz).trans (hk _ _ D.TIz D.TITO D.TIi1 D.TIi2 hTI)
    · exact (sb.2 _ D.TOz).trans TO'
    · exact Sk.keep (a2 _ _ h1') fun o q => (sb.2 _ D.i1z).trans q
    · exact Sk.keep (b2 _ _ h2') fun o q => (sb.2 _ D.i2z).trans q
    · have hlt : c < s.heap.objs.size := by
        have e' : c = z ∨ c = TI ∨ c = TO ∨ c = i1 ∨ c = i2 := by simpa using hcm
        rcases e' with q | q | q | q | q
        · rw [q]; exact hzl
        · rw [q]; exact Heap.lt_size hTI
        · rw [q]; exact Heap.lt_size hTO
        · rw [q]; obtain ⟨_, e1, _⟩ := Sk.obj h1; exact Heap.lt_size e1
        · rw [q]; obtain ⟨_, e2, _⟩ := Sk.obj h2; exact Heap.lt_size e2
      rw [upd_ne (Nat.ne_of_lt hlt)]
      exact (hf c hcm).1
  done := by
    intro X hP hw hK hc i pins s σ H E I hf st hg
    subst hP hw hK
    obtain ⟨hz, hTI, ⟨x0, y0, hTO⟩, h1, h2⟩ := st
    obtain ⟨xs, ys, hqx, hqy, hend⟩ := hg
    obtain ⟨fp1, P1, S1, D1, a1, a2, a3, a4, a5⟩ := Sk.draw I hc hqx i1 t1 (D.ad i1 (by simp)).1
    obtain ⟨fp2, P2, S2, D2, b1, b2, b3, b4, b5⟩ := Sk.draw I hc hqy i2 t2 (D.ad i2 (by simp)).2
    exact wpAny_pyNext_zipD2_end (D.sep a4 b4 a5 b5) D1 D2 hz hTI hTO (a1 i h1) (b1 i h2) (by omega) (by omega) (by omega) fun h' tk' hk => ⟨rfl, I.turnedL (t' := tk') (ch := [z, TI, TO, i1, i2]) (fun c o hb q =>
      hk c o (fun q' => hb (by simp [q'])) (fun q' => hb (by simp [q'])) (fun q' => hb (by simp [q'])) (fun q' => hb (by simp [q'])) q) hf⟩
  self := fun A i s Q E st h => wpAny_pyIter_zip st.1 h
def iZipS (K : PySem.W.Frag) (ta : TA) : TI := fun σ H R => ta σ H fun vs H1 => ∃ (a b : Sk) (xs ys : List V), vs = [a.val, b.val] ∧ a.rd K H1 xs ∧ b.rd K H1 ys ∧ R (ItzS K a b) H1
theorem pi_zipS {X : Cx} {e e2 : Expr} {ta : TA} {p pos tpos : Pos} {elts : List Expr} {kk : Nat} (hg : Gl X "zip") (hm : X.mg "zip" = none) (ha : PA X [e, e2] ta)
    (hs : starEach [e, e2] X.env = (false, eval e X.env) :: starEach [e2] X.env := by rfl) (hpl : (backTo pos (starEach [e2] X.env)).any (·.1) = false := by rfl) :
    PI X (.Tuple elts kk tpos) (.Call (.Name "zip" p) [e, e2] [] pos) (iZipS X.K ta) := by
  refine ⟨fun pins s σ H R I h => ?_⟩
  refine Call_ (ld_blt I hg hm PyProof.Rows.boot_zip (PyProof.Rows.callWith_type1 (thn (ha.run pos pins s σ H _ I h) fun us s1 ⟨vs, H1, I1, r1, q1⟩ => ?_) hs hpl))
  obtain ⟨a, b, xs, ys, ex, hqx, hqy, q⟩ := q1
  subst ex
  cases r1 with
  | cons r rr =>
    cases rr with
    | cons r' rr =>
      cases rr
      obtain ⟨o1, t1, Hh1, B1, hH1, c1⟩ := Sk.begins I1 hqx r
      obtain ⟨o2, t2, Hh2, B2, hH2, c2⟩ := Sk.begins I1 hqy r'
      refine zip_begins2 B1 B2 hH1 hH2 fun h' hz hTI hTO h1 h2 hsz hk => wpAny_pyIter_zip hz ?_
      have I2 : Inv X pins σ H1 { s1 with heap := h' } := I1.kept (t' := s1.toks) hk
      have la := Sk.lt I1 hqx
      have lb := Sk.lt I1 hqy
      have sep := zps s1.heap.objs.size la lb
      refine ⟨s1.heap.objs.size + 4, [s1.heap.objs.size + 4, s1.heap.objs.size + 2, s1.heap.objs.size + 3, s1.heap.objs.size, s1.heap.objs.size + 1], _, _, H1, rfl, I2, turn_zipS t1 t2 sep, ⟨hz, hTI, ⟨_, _, hTO⟩, c1 _ _ h1, c2 _ _ h2⟩, fun c hcm => ?_, q⟩
      have e' : c = s1.heap.objs.size + 4 ∨ c = s1.heap.objs.size + 2 ∨ c = s1.heap.objs.size + 3 ∨ c = s1.heap.objs.size ∨ c = s1.heap.objs.size + 1 := by simpa using hcm
      have hle : s1.heap.objs.size ≤ c := by
        rcases e' with z | z | z | z | z
        · rw [z]; exact Nat.le_add_right _ _
        · rw [z]; exact Nat.le_add_right _ _
        · rw [z]; exact Nat.le_add_right _ _
        · rw [z]; exact Nat.le_refl _
        · rw [z]; exact Nat.le_add_right _ _
      exact I1.fpOk hle (I1.hok.fresh hle)
end Ev
end

section
set_option Elab.async false
set_option linter.all false
set_option maxRecDepth 100000
set_option maxHeartbeats 1000000
/-! The iterables' readings. -/
namespace Ev
open PySem PySem.Spec PyProof.Rows L2
section
variable {X : Cx} {K : PySem.W.Frag} {EK : EKT} {W : WX} {cl : Cl} {G G' H H' : Hp} {P P' : Nat → Addr → Prop} {F F' T T' : Addr → Prop} {e e' : En} {σ σ' : L2.St} {Pr : List Nat} {D : Ends}
/-- a value that is looked at, with the slot that owns it -/
def RtN (K : PySem.W.Frag) (H G : Hp) (S : List Nat) (e : En) (σ : L2.St) (v : V) (d : PyData) : Prop := Fz K G v d ∨
  ∃ i x a xs ds, i ∈ S ∧ gt e i = some x ∧ (x.1 = .o ∨ x.1 = .l) ∧ σ[i]? = some (some (.ref a)) ∧ v = .ref a ∧ d = .list ds ∧ H a = some (.lst xs) ∧ FzA K G xs ds
inductive RtNA (K : PySem.W.Frag) (H G : Hp) (S : List Nat) (e : En) (σ : L2.St) : List V → List PyData → Prop
  | nil : RtNA K H G S e σ [] []
  | cons {v d vs ds} : RtN K H G S e σ v d → RtNA K H G S e σ vs ds → RtNA K H G S e σ (v :: vs) (d :: ds)
theorem RtN.sub {S S' : List Nat} {v : V} {d : PyData} (r : RtN K H G S e σ v d) (h : ∀ i ∈ S, i ∈ S') : RtN K H G S' e σ v d :=
  r.imp id fun ⟨i, x, a, xs, ds, h1, h2⟩ => ⟨i, x, a, xs, ds, h i h1, h2⟩
theorem RtNA.sub {S S' : List Nat} {vs : List V} {ds : List PyData} (r : RtNA K H G S e σ vs ds) (h : ∀ i ∈ S, i ∈ S') : RtNA K H G S' e σ vs ds := by
  induction r with
  | nil => exact .nil
  | cons a b ih => exact .cons (a.sub h) ih
theorem ars_rtN {as : List Ar} {xs : List (Option Vl)} {vs : List V} {ds : List PyData} (x : Env1 K P H G F e σ) (r : ArsR K H G F σ as xs vs T) (hd : arDat as e xs = some ds) : ∀ G', Same G G' → (∀ a, T a → G' a = H a) → RtNA K H G' (arSl as) e σ vs ds := by
  induction r generalizing ds with
  | nil =>
    intro G' _ _
    cases hd
    exact .nil
  | @v c as y xs v vs T1 T2 ro rs dj ih =>
    intro G' s h
    have hd' : (arDat as e xs).map (y.2 :: ·) = some ds := hd
    cases q : arDat as e xs with
    | none => rw [q] at hd'; cases hd'
    | some es =>
      rw [q] at hd'
      cases hd'
      exact .cons (.inl (ro.frozen s (fun a z => h a (.inl z)))) (ih q G' s fun a z => h a (.inr z))
  | @n i as xs v vs T hv rs ih =>
    intro G' s h
    obtain ⟨fp, h1, _, _⟩ := x.fp
    have hd' : (match gt e i with
      | some (.f, d) => (arDat as e xs).map (d :: ·)
      | some (.o, d) => (arDat as e xs).map (d :: ·)
      | some (.l, d) => (arDat as e xs).map (d :: ·)
      | _ => none) = some ds := hd
    cases g : gt e i with
    | none => rw [g] at hd'; cases hd'
    | some y =>
      obtain ⟨v', hv', ro⟩ := h1 i y g
      rw [hv] at hv'
      cases hv'
      obtain ⟨ow, d⟩ := y
      rw [g] at hd'
      cases q : arDat as e xs with
      | none => rw [q] at hd'; cases ow <;> cases hd'
      | some es =>
        rw [q] at hd'
        have tail := (ih q G' s h).sub (S' := arSl (.n i :: as)) fun j hj => List.mem_cons_of_mem _ hj
        have mem : i ∈ arSl (.n i :: as) := List.mem_cons_self ..
        cases ow with
        | f =>
          cases hd'
          exact .cons (.inl (Fz.mono s ro)) tail
        | o =>
          cases hd'
          obtain ⟨a, zs, ds', h1, h2, h3, h4, h5⟩ := ro
          cases h1
          exact .cons (.inr ⟨i, _, a, zs, ds', mem, g, .inl rfl, hv, rfl, h2, h3, h4.mono s⟩) tail
        | l =>
          cases hd'
          obtain ⟨a, zs, ds', h1, h2, h3, h4, h5⟩ := ro
          cases h1
          exact .cons (.inr ⟨i, _, a, zs, ds', mem, g, .inr rfl, hv, rfl, h2, h3, h4.mono s⟩) tail
        | b => cases hd'
/-- what an iterable's rule asks -/
def ItS (K : PySem.W.Frag) (r : List V → Hp → (L2.It → Hp → Prop) → Prop) (f : List PyData → Option (List PyData)) (pair : Bool) : Prop :=
  ∀ (H G : Hp) (as : List Ar) (e : En) (σ : L2.St) (vs : List V) (ds xs : List PyData) (R : L2.It → Hp → Prop), Same G H → RtNA K H G (arSl as) e σ vs ds → f ds = some xs → (∀ J Gd Y, ItW K H G as e σ pair J xs Gd Y → R J H) → r vs H R
theorem rdI_of {it : Ev.It} {pair : Bool} {r : List V → Hp → (L2.It → Hp → Prop) → Prop} {Rr : L2.It → Hp → Prop} (hr : ItS K r it.f pair) (h : rdI K EK W cl it pair σ H Rr) : rdAs K EK W cl it.as σ H fun vs H1 => r vs H1 Rr := by
  obtain ⟨e, G, F, P, x, h⟩ := h
  refine ⟨e, G, F, P, x, ?_⟩
  cases q : arRun it.as cl e with
  | no => simp only [itRun, q, R.bind] at h
  | ex n d e' => simp only [itRun, q, R.bind] at h; exact h
  | ok p =>
    obtain ⟨e1, ys⟩ := p
    simp only [itRun, q, R.bind] at h
    intro vs H1 G1 F1 T1 x1 rs s1
    cases qd : arDat it.as e1 ys with
    | none => simp only [qd] at h
    | some ds =>
      simp only [qd] at h
      cases qf : it.f ds with
      | none => simp only [qf] at h
      | some xs =>
        simp only [qf] at h
        obtain ⟨x2, z, sG, hT⟩ := frozen_all x x1 s1
        exact hr H1 (frz H1 G1 T1) it.as e1 σ vs ds xs Rr x2.sub (ars_rtN x1 rs qd _ sG hT) qf fun J Gd Y iw => h J H1 _ F1 Gd Y x2 z iw
/-! ### items -/
def chD (c : Nat) : PyData := .str ⟨#[c]⟩
def itemsD : PyData → Option (List PyData)
  | .list ds => some ds
  | .tuple ds => some ds
  | .str z => some (z.cps.toList.map chD)
  | _ => none
theorem chars_fz {z : Str} (h : PyData.strOk z = true) : FzA K G (z.cps.toList.map fun c => V.str ⟨#[c]⟩) (z.cps.toList.map chD) := by
  refine ⟨by simp, fun i v d a b => ?_⟩
  rw [List.getElem?_map] at a b
  cases q : z.cps.toList[i]? with
  | none => rw [q] at a; cases a
  | some c =>
    rw [q] at a b
    cases a
    cases b
    refine Fz.str _ ?_
    have hm : c ∈ z.cps.toList := List.mem_of_getElem? q
    unfold PyData.strOk at h ⊢
    rw [Array.all_eq_true'] at h ⊢
    intro x hx
    have : x = c := by simpa using hx
    subst this
    exact h x (by simpa using hm)
/-- what is walked: its kind, and that it stays -/
theorem rtn_walk {S : List Nat} {v : V} {d : PyData} {ds : List PyData} (sub : Same G H) (r : RtN K H G S e σ v d) (hi : itemsD d = some ds) : ∃ (k : Sk) (xs : List V), v = k.val ∧ k.rd K H xs ∧ FzA K G xs ds ∧
    ∀ F1 H2 G2 F2 T2, (∀ i ∈ S, ∀ x a, gt e i = some x → x.1 = .o ∨ x.1 = .l → σ[i]? = some (some (.ref a)) → ¬ F1 a) → Stp H G F1 H2 G2 F2 T2 → Same G2 H2 → k.rd K H2 xs := by
  rcases r with r | ⟨i, x, a, xs, ds', h1, h2, h3, h4, rfl, rfl, h7, h8⟩
  · cases r with
    | non => cases hi
    | bl b => cases hi
    | int i => cases hi
    | str z hz =>
      cases hi
      exact ⟨.s z, _, rfl, rfl, chars_fz hz, fun _ _ _ _ _ _ _ _ => rfl⟩
    | @lst a xs ds' hr hl hh =>
      cases hi
      exact ⟨.l a, xs, rfl, .inl (Rd.same sub hr), ⟨hl, hh⟩, fun F1 H2 G2 F2 T2 _ s sb => .inl (Rd.same sb (Rd.same s.sg hr))⟩
    | @tup a xs ds' hr hl hh =>
      cases hi
      exact ⟨.t a, xs, rfl, (SqN.same sub hr).t, ⟨hl, hh⟩, fun F1 H2 G2 F2 T2 _ s sb => (SqN.same sb (SqN.same s.sg hr)).t⟩
  · cases hi
    exact ⟨.l a, xs, rfl, .inl (.inl h7), h8, fun F1 H2 G2 F2 T2 hn s sb => .inl (.inl (s.fr a _ (hn i h1 x a h2 h3 h4) h7))⟩
/-! ### values -/
def itV : List PyData → Option (List PyData)
  | [d] => itemsD d
  | _ => none
def iVal (K : PySem.W.Frag) : List V → Hp → (L2.It → Hp → Prop) → Prop := fun vs H R => ∃ k : Sk, vs = [k.val] ∧ (∃ xs, k.rd K H xs) ∧ R (match k with
  | .l a => Itl K a
  | .t a => Itt K a
  | .s z => Its z) H
theorem its_val : ItS K (iVal K) itV false := by
  intro H G as e σ vs ds xs R sub r hf hR
  cases r with
  | nil => cases hf
  | @cons v d vs ds r rs =>
    cases rs with
    | cons _ _ => cases hf
    | nil =>
      obtain ⟨k, ys, rfl, hk, hz, st⟩ := rtn_walk sub r hf
      refine ⟨k, rfl, ⟨ys, hk⟩, hR _ (fun H2 => k.rd K H2 ys) (YAt ys) ⟨?_, fun F1 H2 G2 F2 T2 a b c => st F1 H2 G2 F2 T2 a b c, fun i H2 w H3 hi y => ?_⟩⟩
      · rw [← hz.len]
        cases k with
        | l a => exact walk_list
        | t a => exact walk_tup
        | s z =>
          have hy : ys = z.cps.toList.map fun c => V.str ⟨#[c]⟩ := hk
          have w := walk_str (z := z)
          rw [show ys.length = z.cps.size by rw [hy]; simp]
          refine w.mono (fun _ _ => trivial) fun i H x H' hi _ y => ⟨y.1, ?_⟩
          obtain ⟨_, c, hc, rfl⟩ := y
          rw [hy, List.getElem?_map, Array.getElem?_toList, hc]
          rfl
      · obtain ⟨rfl, hy⟩ := y
        obtain ⟨d', hd', f⟩ := hz.get' hy
        exact .inl ⟨rfl, d', hd', f⟩
theorem pi_val {tg l : Expr} {tl : TE} (hl : PE X l tl) : PI X tg l (fun σ H R => tl σ H fun v H1 => iVal X.K [v] H1 R) := by
  refine ⟨fun pins s σ H R I h => ?_⟩
  refine thn (hl.run pins s σ H _ I h) fun v s1 ⟨x, H1, I1, r1, k, ex, ⟨xs, hk⟩, q⟩ => ?_
  cases ex
  have one : PE X l (fun σ' H' Q => True → False) := ⟨fun _ _ _ _ _ _ h => (h trivial).elim⟩
  cases k with
  | l a =>
    cases r1
    obtain ⟨its, rv, p, hz⟩ := I1.list hk
    refine wpAny_pyIter_list p.isList ?_
    refine ⟨s1.heap.objs.size, [s1.heap.objs.size], _, _, H1, rfl, I1.kept (t' := s1.toks) fun b o e => Heap.get?_push_of_some _ e, turn_list a _, ⟨_, Heap.get?_push_size _ rfl, rfl, rfl⟩, fun b hb => ?_, q⟩
    have e : b = s1.heap.objs.size := by simpa using hb
    subst e
    exact I1.fpOk (Nat.le_refl _) (I1.hok.fresh (Nat.le_refl _))
  | t a =>
    cases r1
    obtain ⟨its, rv, p, hz⟩ := I1.tuple hk
    refine wpAny_pyIter_tuple (show s1.heap.IsTuple a its.toArray from p) ?_
    refine ⟨s1.heap.objs.size, [s1.heap.objs.size], _, _, H1, rfl, I1.kept (t' := s1.toks) fun b o e => Heap.get?_push_of_some _ e, turn_tuple a _, ⟨_, Heap.get?_push_size _ rfl, rfl, rfl⟩, fun b hb => ?_, q⟩
    have e : b = s1.heap.objs.size := by simpa using hb
    subst e
    exact I1.fpOk (Nat.le_refl _) (I1.hok.fresh (Nat.le_refl _))
  | s x =>
    obtain ⟨t, rfl⟩ := r1
    cases ha : x.cps.all (· < 128)
    · exact wpAny_pyIter_wide ha (pi_one (tk := s1.toks) I1 _ (turn_str _ x t "str_iterator" (.inr rfl)) ⟨_, Heap.get?_push_size _ rfl, rfl, rfl⟩ q)
    · exact wpAny_pyIter_ascii ha (pi_one (tk := s1.toks) I1 _ (turn_str _ x t "str_ascii_iterator" (.inl rfl)) ⟨_, Heap.get?_push_size _ rfl, rfl, rfl⟩ q)
/-! ### ranges -/
def upto (lo : Int) (n : Nat) : List PyData := (List.range n).map fun (i : Nat) => PyData.int (lo + (i : Int))
theorem upto_at {lo : Int} {n i : Nat} (h : i < n) : (upto lo n)[i]? = some (.int (lo + (i : Int))) := by
  unfold upto
  rw [List.getElem?_map, List.getElem?_range h]
  rfl
def inR (i : Int) : Bool := decide (-(2 ^ 62) ≤ i) && decide (i < 2 ^ 62)
theorem inR_ok {i : Int} (h : inR i = true) : -(2 ^ 62) ≤ i ∧ i < 2 ^ 62 := by
  unfold inR at h
  simpa using h
def itR1 : List PyData → Option (List PyData)
  | [.int j] => if inR j = true then some (upto 0 j.toNat) else none
  | _ => none
def itR2 : List PyData → Option (List PyData)
  | [.int i, .int j] => if inR i = true ∧ inR j = true then some (upto i (j - i).toNat) else none
  | _ => none
def uptoC (lo c : Int) (n : Nat) : List PyData := (List.range n).map fun (i : Nat) => PyData.int (lo + (i : Int) * c)
/-- range(i, j, -1) -/
def itR3 : List PyData → Option (List PyData)
  | [.int i, .int j, .int c] => if inR i = true ∧ inR j = true ∧ c = -1 then some (uptoC i (-1) (i - j).toNat) else none
  | _ => none
theorem RtN.int {S : List Nat} {v : V} {i : Int} (r : RtN K H G S e σ v (.int i)) : v = .int i := by
  rcases r with r | ⟨i, x, a, xs, ds', h1, h2, h3, h4, rfl, h6, h7, h8⟩
  · cases r; rfl
  · cases h6
theorem its_r1 : ItS K (fun vs H R => ∃ j : Int, vs = [.int j] ∧ -(2 ^ 62) ≤ j ∧ j < 2 ^ 62 ∧ R (Itr 0 j.toNat) H) itR1 false := by
  intro H G as e σ vs ds xs R sub r hf hR
  cases r with
  | nil => cases hf
  | @cons v d vs ds r rs =>
    cases rs with
    | cons _ _ => cases d <;> cases hf
    | nil =>
      cases d with
      | int j =>
        have hf : (if inR j = true then some (upto 0 j.toNat) else none) = some xs := hf
        by_cases hj : inR j = true
        · rw [if_pos hj] at hf
          cases hf
          have hv := RtN.int r
          subst hv
          obtain ⟨a, b⟩ := inR_ok hj
          refine ⟨j, rfl, a, b, hR _ (fun _ => True) (YFn fun i => .int (0 + (i : Int))) ⟨by rw [show (upto 0 j.toNat).length = j.toNat by simp [upto]]; exact walk_range, fun _ _ _ _ _ _ _ _ => trivial, fun i H2 w H3 hi y => .inl ⟨y.1, _, upto_at (by simpa [upto] using hi), ?_⟩⟩⟩
          obtain ⟨_, rfl⟩ := y
          exact .int _
        · rw [if_neg hj] at hf; cases hf
      | _ => cases hf
theorem its_r2 : ItS K (fun vs H R => ∃ i j : Int, vs = [.int i, .int j] ∧ (-(2 ^ 62) ≤ i ∧ i < 2 ^ 62 ∧ -(2 ^ 62) ≤ j ∧ j < 2 ^ 62) ∧ R (Itr i (j - i).toNat) H) itR2 false := by
  intro H G as e σ vs ds xs R sub r hf hR
  cases r with
  | nil => cases hf
  | @cons v d vs ds r rs =>
    cases rs with
    | nil => cases d <;> cases hf
    | @cons v2 d2 vs ds r2 rs =>
      cases rs with
      | cons _ _ => cases d <;> first | cases hf | (cases d2 <;> cases hf)
      | nil =>
        cases d with
        | int i =>
          cases d2 with
          | int j =>
            have hf : (if inR i = true ∧ inR j = true then some (upto i (j - i).toNat) else none) = some xs := hf
            by_cases hj : inR i = true ∧ inR j = true
            · rw [if_pos hj] at hf
              cases hf
              have hv := RtN.int r
              subst hv
              have hv := RtN.int r2
              subst hv
              obtain ⟨a, b⟩ := inR_ok hj.1
              obtain ⟨a2, b2⟩ := inR_ok hj.2
              refine ⟨i, j, rfl, ⟨a, b, a2, b2⟩, hR _ (fun _ => True) (YFn fun k => .int (i + (k : Int))) ⟨by rw [show (upto i (j - i).toNat).length = (j - i).toNat by simp [upto]]; exact walk_range, fun _ _ _ _ _ _ _ _ => trivial, fun k H2 w H3 hi y => .inl ⟨y.1, _, upto_at (by simpa [upto] using hi), ?_⟩⟩⟩
              obtain ⟨_, rfl⟩ := y
              exact .int _
            · rw [if_neg hj] at hf; cases hf
          | _ => cases hf
        | _ => cases hf
theorem its_r3 : ItS K (fun vs H R => ∃ (i j c : Int) (n : Nat), vs = [.int i, .int j, .int c] ∧ RgC i j c n ∧ R (Itc i c n) H) itR3 false := by
  intro H G as e σ vs ds xs R sub r hf hR
  cases r with
  | nil => cases hf
  | @cons v d vs ds r rs =>
    cases rs with
    | nil => cases d <;> cases hf
    | @cons v2 d2 vs ds r2 rs =>
      cases rs with
      | nil => cases d <;> first | cases hf | (cases d2 <;> cases hf)
      | @cons v3 d3 vs ds r3 rs =>
        cases rs with
        | cons _ _ => cases d <;> first | cases hf | (cases d2 <;> first | cases hf | (cases d3 <;> cases hf))
        | nil =>
          cases d with
          | int i =>
            cases d2 with
            | int j =>
              cases d3 with
              | int c =>
                have hf : (if inR i = true ∧ inR j = true ∧ c = -1 then some (uptoC i (-1) (i - j).toNat) else none) = some xs := hf
                by_cases hj : inR i = true ∧ inR j = true ∧ c = -1
                · rw [if_pos hj] at hf
                  cases hf
                  have hv := RtN.int r
                  subst hv
                  have hv := RtN.int r2
                  subst hv
                  have hv := RtN.int r3
                  subst hv
                  obtain ⟨a, b⟩ := inR_ok hj.1
                  obtain ⟨a2, b2⟩ := inR_ok hj.2.1
                  have hc := hj.2.2
                  subst hc
                  refine ⟨i, j, -1, _, rfl, RgC.neg a b a2 b2, hR _ (fun _ => True) (YFn fun k => .int (i + (k : Nat) * -1)) ⟨by rw [show (uptoC i (-1) (i - j).toNat).length = (i - j).toNat by simp [uptoC]]; exact walk_rangeC, fun _ _ _ _ _ _ _ _ => trivial, fun k H2 w H3 hi y => .inl ⟨y.1, .int (i + (k : Int) * -1), ?_, ?_⟩⟩⟩
                  · unfold uptoC
                    rw [List.getElem?_map, List.getElem?_range (by simpa [uptoC] using hi)]
                    rfl
                  · obtain ⟨_, rfl⟩ := y
                    exact .int _
                · rw [if_neg hj] at hf; cases hf
              | _ => cases hf
            | _ => cases hf
          | _ => cases hf
/-! ### reversed -/
def itRv : List PyData → Option (List PyData)
  | [.list ds] => some ds.reverse
  | [.tuple ds] => some ds.reverse
  | _ => none
/-! ### pairs -/
def enumD (k : Int) (ds : List PyData) : List PyData := ds.zipIdx.map fun p => .tuple [.int (k + (p.2 : Int)), p.1]
theorem enum_at {k : Int} {ds : List PyData} {i : Nat} {d : PyData} (h : ds[i]? = some d) : (enumD k ds)[i]? = some (.tuple [.int (k + (i : Int)), d]) := by
  unfold enumD
  rw [List.getElem?_map, List.getElem?_zipIdx, h]
  simp
def itE : List PyData → Option (List PyData)
  | [d] => (itemsD d).map (enumD 0)
  | _ => none
def zipD (ds es : List PyData) : List PyData := List.zipWith (fun a b => .tuple [a, b]) ds es
def itZ : List PyData → Option (List PyData)
  | [d, d'] => match itemsD d, itemsD d' with
    | some ds, some es => some (zipD ds es)
    | _, _ => none
  | _ => none
theorem its_enum : ItS K (fun vs H R => ∃ (k : Sk) (xs : List V), vs = [k.val] ∧ k.rd K H xs ∧ R (IteS K k 0) H) itE true := by
  intro H G as e σ vs ds xs R sub r hf hR
  cases r with
  | nil => cases hf
  | @cons v d vs ds r rs =>
    cases rs with
    | cons _ _ => cases hf
    | nil =>
      have hf : (itemsD d).map (enumD 0) = some xs := hf
      cases q : itemsD d with
      | none => rw [q] at hf; cases hf
      | some es =>
        rw [q] at hf
        cases hf
        obtain ⟨k, ys, rfl, hk, hz, st⟩ := rtn_walk sub r q
        refine ⟨k, ys, rfl, hk, hR _ (fun H2 => k.rd K H2 ys) (YPair (fun i => some (.int (0 + (i : Nat)))) (fun i => ys[i]?)) ⟨⟨fun i H2 hi g => ?_, fun H2 g => ⟨ys, g, ?_⟩, fun i H2 x H3 hi g y => ?_⟩, fun F1 H2 G2 F2 T2 a b c => st F1 H2 G2 F2 T2 a b c, fun i H2 w H3 hi y => .inr ⟨rfl, ?_⟩⟩⟩
        · have : i < ys.length := by rw [hz.len]; simpa [enumD] using hi
          exact ⟨ys, ys[i], g, by simp [this]⟩
        · rw [hz.len]; simp [enumD]
        · obtain ⟨T, x', h1, h2, h3, h4⟩ := y
          exact ⟨T, _, x', h1, h2, h3, rfl, h4 ys g⟩
        · obtain ⟨T, x, y, h1, h2, h3, h4, h5⟩ := y
          cases h4
          obtain ⟨d', hd', f⟩ := hz.get' h5
          exact ⟨T, _, y, _, d', h1, h2, h3, enum_at hd', .int _, f⟩
theorem its_zip : ItS K (fun vs H R => ∃ (a b : Sk) (xs ys : List V), vs = [a.val, b.val] ∧ a.rd K H xs ∧ b.rd K H ys ∧ R (ItzS K a b) H) itZ true := by
  intro H G as e σ vs ds xs R sub r hf hR
  cases r with
  | nil => cases hf
  | @cons v d vs ds r rs =>
    cases rs with
    | nil => cases hf
    | @cons v2 d2 vs ds r2 rs =>
      cases rs with
      | cons _ _ => cases hf
      | nil =>
        have hf : (match itemsD d, itemsD d2 with
          | some ds, some es => some (zipD ds es)
          | _, _ => none) = some xs := hf
        cases q : itemsD d with
        | none => rw [q] at hf; cases hf
        | some es =>
          cases q2 : itemsD d2 with
          | none => rw [q, q2] at hf; cases hf
          | some es2 =>
            rw [q, q2] at hf
            cases hf
            obtain ⟨k, ys, rfl, hk, hz, st⟩ := rtn_walk sub r q
            obtain ⟨k2, ys2, rfl, hk2, hz2, st2⟩ := rtn_walk sub r2 q2
            have hl : (zipD es es2).length = min ys.length ys2.length := by rw [hz.len, hz2.len]; simp [zipD]
            refine ⟨k, k2, ys, ys2, rfl, hk, hk2, hR _ (fun H2 => k.rd K H2 ys ∧ k2.rd K H2 ys2) (YPair (fun i => ys[i]?) (fun i => ys2[i]?)) ⟨⟨fun i H2 hi g => ?_, fun H2 g => ⟨ys, ys2, g.1, g.2, hl⟩, fun i H2 x H3 hi g y => ?_⟩, fun F1 H2 G2 F2 T2 a b c => ⟨st F1 H2 G2 F2 T2 a b c, st2 F1 H2 G2 F2 T2 a b c⟩, fun i H2 w H3 hi y => .inr ⟨rfl, ?_⟩⟩⟩
            · have h1 : i < ys.length := by omega
              have h2 : i < ys2.length := by omega
              exact ⟨ys, ys2, ys[i], ys2[i], g.1, g.2, by simp [h1], by simp [h2]⟩
            · obtain ⟨T, x', y', h1, h2, h3, h4, h5⟩ := y
              exact ⟨T, x', y', h1, h2, h3, h4 ys g.1, h5 ys2 g.2⟩
            · obtain ⟨T, x, y, h1, h2, h3, h4, h5⟩ := y
              obtain ⟨d', hd', f⟩ := hz.get' h4
              obtain ⟨d2', hd2', f2⟩ := hz2.get' h5
              refine ⟨T, x, y, d', d2', h1, h2, h3, ?_, f, f2⟩
              unfold zipD
              rw [List.getElem?_zipWith, hd', hd2']
end
end Ev
end

section
set_option Elab.async false
set_option linter.all false
set_option maxRecDepth 100000
set_option maxHeartbeats 1000000
/-! Operations by data: arithmetic, comparisons. -/
namespace Ev
open PySem PySem.Spec PyProof.Rows L2
/-- an operation by data -/
def rD (K : PySem.W.Frag) (f : OpF) : List V → Hp → VK → Prop := fun vs H Q => ∃ G ds x, Same G H ∧ RtA K H G vs ds ∧ f ds = some x ∧ Fin K H G x Q
def rD2 (K : PySem.W.Frag) (f : OpF) : R2 := fun x y H Q => rD K f [x, y] H Q
def rD1 (K : PySem.W.Frag) (f : OpF) : V → Hp → VK → Prop := fun x H Q => rD K f [x] H Q
section
variable {X : Cx} {K : PySem.W.Frag} {EK : EKT} {W : WX} {cl : Cl} {G G' H H' : Hp} {P P' : Nat → Addr → Prop} {F F' T T' : Addr → Prop} {e e' : En} {σ σ' : L2.St} {Pr : List Nat} {D : Ends}
theorem ops_D {f : OpF} : OpS K (rD K f) f := fun vs H G ds x Q s r hf fin => ⟨G, ds, x, s, r, hf, fin⟩
theorem te_D {f : OpF} {as : List Ar} {Q : VK} (h : rdE K EK W cl (cOp f as) σ H Q) : rdAs K EK W cl as σ H fun vs H1 => rD K f vs H1 Q := rd_op ops_D h
theorem te_D1 {f : OpF} {a : Ar} {Q : VK} (h : rdE K EK W cl (cOp f [a]) σ H Q) : tUn (rD1 K f) (rd1 K EK W cl a) σ H Q :=
  rdAs_1 (rdAs.imp (te_D h) fun vs H' q v ev => by rw [ev] at q; exact q)
theorem te_D2 {f : OpF} {a b : Ar} {Q : VK} (h : rdE K EK W cl (cOp f [a, b]) σ H Q) : tOp (rD2 K f) (rd1 K EK W cl a) (rd1 K EK W cl b) σ H Q :=
  rdAs_2 (rdAs.imp (te_D h) fun vs H' q v u ev => by rw [ev] at q; exact q)
theorem te_D3 {f : OpF} {a b c : Ar} {Q : VK} (h : rdE K EK W cl (cOp f [a, b, c]) σ H Q) : rd1 K EK W cl a σ H fun x H1 => rd1 K EK W cl b σ H1 fun y H2 => rd1 K EK W cl c σ H2 fun z H3 => rD K f [x, y, z] H3 Q :=
  rdAs_3 (rdAs.imp (te_D h) fun vs H' q v u w ev => by rw [ev] at q; exact q)
theorem RtA.two {x y : V} {ds : List PyData} (r : RtA K H G [x, y] ds) : ∃ d d', ds = [d, d'] ∧ Rt K H G x d ∧ Rt K H G y d' := by
  cases r with
  | cons a r =>
    cases r with
    | cons b r =>
      cases r
      exact ⟨_, _, rfl, a, b⟩
theorem RtA.one {x : V} {ds : List PyData} (r : RtA K H G [x] ds) : ∃ d, ds = [d] ∧ Rt K H G x d := by
  cases r with
  | cons a r =>
    cases r
    exact ⟨_, rfl, a⟩
theorem RtA.three {x y z : V} {ds : List PyData} (r : RtA K H G [x, y, z] ds) : ∃ d d' d'', ds = [d, d', d''] ∧ Rt K H G x d ∧ Rt K H G y d' ∧ Rt K H G z d'' := by
  cases r with
  | cons a r =>
    obtain ⟨d', d'', rfl, b, c⟩ := r.two
    exact ⟨_, _, _, rfl, a, b, c⟩
/-- ints in, under c; a datum that stands for itself out -/
def fI (c : Int → Int → Bool) (g : Int → Int → PyData) : OpF
  | [.int i, .int j] => if c i j = true then some (.f, g i j) else none
  | _ => none
theorem rD2_int {c : Int → Int → Bool} {g : Int → Int → PyData} {x y : V} {Q : VK} (h : rD2 K (fI c g) x y H Q) : ∃ G i j, Same G H ∧ x = .int i ∧ y = .int j ∧ c i j = true ∧ Fin K H G (.f, g i j) Q := by
  obtain ⟨G, ds, r, s, rt, hf, fin⟩ := h
  obtain ⟨d, d', rfl, r1, r2⟩ := rt.two
  cases d <;> first | cases hf | skip
  rename_i i
  cases d' <;> first | cases hf | skip
  rename_i j
  have hf : (if c i j = true then some (Ow.f, g i j) else none) = some r := hf
  by_cases hc : c i j = true
  · rw [if_pos hc] at hf
    cases hf
    exact ⟨G, i, j, s, r1.int, r2.int, hc, fin⟩
  · rw [if_neg hc] at hf; cases hf
def smallI (i : Int) : Bool := decide (-(2 ^ 64) < i) && decide (i < 2 ^ 64)
theorem smallI_ok {i : Int} (h : smallI i = true) : -(2 ^ 64) < i ∧ i < 2 ^ 64 := by
  unfold smallI at h
  simpa using h
def cYes : Int → Int → Bool := fun _ _ => true
def fSub : OpF := fI cYes fun i j => .int (i - j)
def fFdiv : OpF := fI (fun _ j => j != 0 && decide (j.natAbs < 1073741824)) fun i j => .int (i.fdiv j)
def fMod : OpF := fI (fun _ j => j != 0) fun i j => .int (i.fmod j)
def fPow : OpF := fI (fun i j => decide (0 ≤ j) && decide (j ≤ 1000000) && decide (i.natAbs < 2 ^ 64)) fun i j => .int (i ^ j.toNat)
def fShl : OpF := fI (fun i j => decide (0 ≤ j) && decide (j ≤ 1000000) && decide (i.natAbs < 2 ^ 64)) fun i j => .int (i * 2 ^ j.toNat)
def fShr : OpF := fI (fun _ j => decide (0 ≤ j)) fun i j => .int (i / 2 ^ j.toNat)
theorem opr_sub : OpR X (binaryOp .Sub) (rD2 X.K fSub) := fun pins s σ H x y v u Q I rx ry h => by
  obtain ⟨G, i, j, sg, rfl, rfl, _, fin⟩ := rD2_int h
  exact op_sub pins s σ H _ _ v u Q I rx ry ⟨i, j, rfl, rfl, fin.fg sg fun _ => .int _⟩
theorem opr_fdiv : OpR X (binaryOp .FloorDiv) (rD2 X.K fFdiv) := fun pins s σ H x y v u Q I rx ry h => by
  obtain ⟨G, i, j, sg, rfl, rfl, hc, fin⟩ := rD2_int h
  simp at hc
  exact op_fdivN pins s σ H _ _ v u Q I rx ry ⟨i, j, rfl, rfl, ⟨hc.1, hc.2⟩, fin.fg sg fun _ => .int _⟩
theorem opr_mod : OpR X (binaryOp .Mod) (rD2 X.K fMod) := fun pins s σ H x y v u Q I rx ry h => by
  obtain ⟨G, i, j, sg, rfl, rfl, hc, fin⟩ := rD2_int h
  simp at hc
  exact op_modN pins s σ H _ _ v u Q I rx ry ⟨i, j, rfl, rfl, hc, fin.fg sg fun _ => .int _⟩
theorem opr_pow : OpR X (binaryOp .Pow) (rD2 X.K fPow) := fun pins s σ H x y v u Q I rx ry h => by
  obtain ⟨G, i, j, sg, rfl, rfl, hc, fin⟩ := rD2_int h
  rw [Bool.and_eq_true, Bool.and_eq_true] at hc
  exact op_pow pins s σ H _ _ v u Q I rx ry ⟨i, j, rfl, rfl, ⟨of_decide_eq_true hc.1.1, of_decide_eq_true hc.1.2, of_decide_eq_true hc.2⟩, fin.fg sg fun _ => .int _⟩
theorem opr_shl : OpR X (binaryOp .LShift) (rD2 X.K fShl) := fun pins s σ H x y v u Q I rx ry h => by
  obtain ⟨G, i, j, sg, rfl, rfl, hc, fin⟩ := rD2_int h
  rw [Bool.and_eq_true, Bool.and_eq_true] at hc
  exact op_shl pins s σ H _ _ v u Q I rx ry ⟨i, j, rfl, rfl, ⟨of_decide_eq_true hc.1.1, of_decide_eq_true hc.1.2, of_decide_eq_true hc.2⟩, fin.fg sg fun _ => .int _⟩
theorem opr_shr : OpR X (binaryOp .RShift) (rD2 X.K fShr) := fun pins s σ H x y v u Q I rx ry h => by
  obtain ⟨G, i, j, sg, rfl, rfl, hc, fin⟩ := rD2_int h
  exact op_shr pins s σ H _ _ v u Q I rx ry ⟨i, j, rfl, rfl, of_decide_eq_true hc, fin.fg sg fun _ => .int _⟩
/-! ### + and * -/
def fAdd : OpF
  | [.int i, .int j] => some (.f, .int (i + j))
  | [.str a, .str b] => if a.length + b.length ≤ sizeLine then some (.f, .str (a ++ b)) else none
  | [.list a, .list b] => if a.length + b.length ≤ sizeLine then some (.o, .list (a ++ b)) else none
  | [.tuple a, .tuple b] => if a.length + b.length ≤ sizeLine then some (.f, .tuple (a ++ b)) else none
  | _ => none
theorem strOk_app {a b : Str} (h : PyData.strOk a = true) (h' : PyData.strOk b = true) : PyData.strOk (a ++ b) = true := by
  unfold PyData.strOk at h h' ⊢
  show (a.cps ++ b.cps).all _ = true
  rw [Array.all_append, h, h']
  rfl
theorem opr_add : OpR X (binaryOp .Add) (rD2 X.K fAdd) := fun pins s σ H x y v u Q I rx ry h => by
  obtain ⟨G, ds, r, sg, rt, hf, fin⟩ := h
  obtain ⟨d, d', rfl, r1, r2⟩ := rt.two
  cases d <;> first | cases hf | skip
  · rename_i i
    cases d' <;> first | cases hf | skip
    rename_i j
    cases r1.int
    cases r2.int
    exact op_add pins s σ H _ _ v u Q I rx ry ⟨i, j, rfl, rfl, fin.fg sg fun _ => .int _⟩
  · rename_i a
    cases d' <;> first | cases hf | skip
    rename_i b
    have hf : (if a.length + b.length ≤ sizeLine then some (Ow.f, PyData.str (a ++ b)) else none) = some r := hf
    by_cases hc : a.length + b.length ≤ sizeLine
    · rw [if_pos hc] at hf
      cases hf
      obtain ⟨rfl, ok1⟩ := r1.str
      obtain ⟨rfl, ok2⟩ := r2.str
      exact op_add_str pins s σ H _ _ v u Q I rx ry ⟨a, b, rfl, rfl, hc, fin.fg sg fun _ => .str _ (strOk_app ok1 ok2)⟩
    · rw [if_neg hc] at hf; cases hf
  · rename_i a
    cases d' <;> first | cases hf | skip
    rename_i b
    have hf : (if a.length + b.length ≤ sizeLine then some (Ow.o, PyData.list (a ++ b)) else none) = some r := hf
    by_cases hc : a.length + b.length ≤ sizeLine
    · rw [if_pos hc] at hf
      cases hf
      obtain ⟨p, xs, rfl, q1, z1⟩ := r1.list sg
      obtain ⟨p2, ys, rfl, q2, z2⟩ := r2.list sg
      exact op_catR pins s σ H _ _ v u Q I rx ry ⟨p, p2, xs, ys, rfl, rfl, q1, q2, by rw [z1.len, z2.len]; exact hc, fin.lst sg (z1.append z2)⟩
    · rw [if_neg hc] at hf; cases hf
  · rename_i a
    cases d' <;> first | cases hf | skip
    rename_i b
    have hf : (if a.length + b.length ≤ sizeLine then some (Ow.f, PyData.tuple (a ++ b)) else none) = some r := hf
    by_cases hc : a.length + b.length ≤ sizeLine
    · rw [if_pos hc] at hf
      cases hf
      obtain ⟨p, xs, rfl, q1, z1, w1⟩ := r1.tuple sg
      obtain ⟨p2, ys, rfl, q2, z2, w2⟩ := r2.tuple sg
      refine op_catN pins s σ H _ _ v u Q I rx ry ⟨p, p2, xs, ys, rfl, rfl, q1.t, q2.t, by rw [z1.len, z2.len]; exact hc, fun e => ?_, fun e1 e2 => ?_, fun e1 e2 => fin.tup sg (z1.append z2)⟩
      · subst e
        have : a = [] := z1.nil_l
        subst this
        exact fin.f sg w2
      · subst e2
        have : b = [] := z2.nil_l
        subst this
        rw [List.append_nil] at fin
        exact fin.f sg w1
    · rw [if_neg hc] at hf; cases hf
/-- str * int, list * int -/
def repS (z : Str) (k : Nat) : Str := ⟨(List.replicate k z.cps.toList).flatten.toArray⟩
theorem repS_len (z : Str) (k : Nat) : (repS z k).length = k * z.length := by
  show ((List.replicate k z.cps.toList).flatten.toArray).size = _
  rw [List.size_toArray]
  induction k with
  | zero => simp
  | succ k ih =>
    rw [List.replicate_succ, List.flatten_cons, List.length_append, ih, Nat.succ_mul]
    show z.cps.toList.length + _ = _
    rw [Array.length_toList]
    exact Nat.add_comm _ _
theorem repS_one (z : Str) : repS z 1 = z := by
  unfold repS
  simp
theorem repS_nil {z : Str} (h : z.length = 0) (k : Nat) : repS z k = z := by
  have e : z.cps = #[] := Array.eq_empty_of_size_eq_zero h
  have z0 : z = ⟨#[]⟩ := by cases z; cases e; rfl
  subst z0
  unfold repS
  congr 1
  induction k with
  | zero => rfl
  | succ k ih => rw [List.replicate_succ, List.flatten_cons]; simpa using ih
theorem fold_app (k : Nat) (a acc : Array Nat) : (List.replicate k a).foldl (· ++ ·) acc = acc ++ (List.replicate k a.toList).flatten.toArray := by
  induction k generalizing acc with
  | zero => simp
  | succ k ih =>
    rw [List.replicate_succ, List.foldl_cons, ih, List.replicate_succ, List.flatten_cons]
    apply Array.toList_inj.mp
    simp
theorem op_mul_str : OpR X (binaryOp .Mult) (fun x y H Q => ∃ z k, x = .str z ∧ y = .int k ∧ -(2 ^ 63) ≤ k ∧ k < 2 ^ 63 ∧ z.length * k.toNat ≤ sizeLine ∧ Q (.str (repS z k.toNat)) H) := by
  intro pins s σ H x y v u Q I rx ry h
  obtain ⟨z, k, rfl, rfl, h1, h2, hz, q⟩ := h
  obtain ⟨t, rfl⟩ := rx
  obtain ⟨t', rfl⟩ := ry
  have hs := sizeLine_eq
  refine PySem.P.mul_str (by rw [decide_eq_false (by omega), decide_eq_false (by omega)]; rfl) (fun hk _ => ?_) (fun _ _ => ?_) ?_
  · have hm : (z.length : Int) * k ≤ 2 ^ 63 - 1 := by
      have e : ((z.length * k.toNat : Nat) : Int) = (z.length : Int) * k := by rw [Int.natCast_mul, Int.toNat_of_nonneg (by omega)]
      rw [← e]
      omega
    have := Int.le_ediv_of_mul_le (by omega) hm
    omega
  · unfold Builtin.Str.tooLong
    exact decide_eq_false (by omega)
  · by_cases hk : k < 1
    · rw [if_pos hk]
      have e : k.toNat = 0 := by omega
      rw [e] at q
      exact ⟨by decide, .str _, H, I.tok _, ⟨_, rfl⟩, q⟩
    · rw [if_neg hk]
      by_cases hc : (k == 1 || z.length == 0) = true
      · rw [if_pos hc]
        rw [Bool.or_eq_true] at hc
        have e : repS z k.toNat = z := by
          rcases hc with c | c
          · have : k = 1 := by simpa using c
            subst this
            exact repS_one z
          · exact repS_nil (by simpa using c) _
        rw [e] at q
        exact ⟨.str _, H, I, ⟨_, rfl⟩, q⟩
      · rw [if_neg hc]
        have e : (⟨(List.replicate k.toNat z.cps).foldl (· ++ ·) #[]⟩ : Str) = repS z k.toNat := by
          rw [fold_app]
          simp [repS]
        rw [e]
        exact ⟨by rw [repS_len, Nat.mul_comm]; exact hz, .str _, H, I.tok _, ⟨_, rfl⟩, q⟩
theorem strOk_rep {z : Str} (h : PyData.strOk z = true) (k : Nat) : PyData.strOk (repS z k) = true := by
  unfold PyData.strOk at h ⊢
  rw [Array.all_eq_true'] at h ⊢
  intro x hx
  have hx : x ∈ (List.replicate k z.cps.toList).flatten := by simpa [repS] using hx
  obtain ⟨l, hl, hx⟩ := List.mem_flatten.mp hx
  rw [List.eq_of_mem_replicate hl] at hx
  exact h x (by simpa using hx)
def fMul : OpF
  | [.int i, .int j] => if smallI i || smallI j then some (.f, .int (i * j)) else none
  | [.str a, .int k] => if decide (-(2 ^ 63) ≤ k) && decide (k < 2 ^ 63) && decide (a.length * k.toNat ≤ sizeLine) then some (.f, .str (repS a k.toNat)) else none
  | [.list a, .int k] => if decide (-(2 ^ 63) ≤ k) && decide (k < 2 ^ 63) && decide (a.length * k.toNat ≤ sizeLine) then some (.o, .list (List.replicate k.toNat a).flatten) else none
  | _ => none
theorem FzA.rep {xs : List V} {ds : List PyData} (z : FzA K G xs ds) : ∀ n : Nat, FzA K G (List.replicate n xs).flatten (List.replicate n ds).flatten
  | 0 => .nil
  | n + 1 => by
    rw [List.replicate_succ, List.replicate_succ, List.flatten_cons, List.flatten_cons]
    exact z.append (FzA.rep z n)
theorem opr_mul : OpR X (binaryOp .Mult) (rD2 X.K fMul) := fun pins s σ H x y v u Q I rx ry h => by
  obtain ⟨G, ds, r, sg, rt, hf, fin⟩ := h
  obtain ⟨d, d', rfl, r1, r2⟩ := rt.two
  cases d <;> first | cases hf | skip
  · rename_i i
    cases d' <;> first | cases hf | skip
    rename_i j
    have hf : (if (smallI i || smallI j) = true then some (Ow.f, PyData.int (i * j)) else none) = some r := hf
    by_cases hc : (smallI i || smallI j) = true
    · rw [if_pos hc] at hf
      cases hf
      cases r1.int
      cases r2.int
      rw [Bool.or_eq_true] at hc
      exact op_mul pins s σ H _ _ v u Q I rx ry ⟨i, j, rfl, rfl, hc.imp smallI_ok smallI_ok, fin.fg sg fun _ => .int _⟩
    · rw [if_neg hc] at hf; cases hf
  · rename_i a
    cases d' <;> first | cases hf | skip
    rename_i k
    have hf : (if (decide (-(2 ^ 63) ≤ k) && decide (k < 2 ^ 63) && decide (a.length * k.toNat ≤ sizeLine)) = true then some (Ow.f, PyData.str (repS a k.toNat)) else none) = some r := hf
    by_cases hc : (decide (-(2 ^ 63) ≤ k) && decide (k < 2 ^ 63) && decide (a.length * k.toNat ≤ sizeLine)) = true
    · rw [if_pos hc] at hf
      cases hf
      rw [Bool.and_eq_true, Bool.and_eq_true] at hc
      obtain ⟨rfl, ok⟩ := r1.str
      cases r2.int
      exact op_mul_str pins s σ H _ _ v u Q I rx ry ⟨a, k, rfl, rfl, of_decide_eq_true hc.1.1, of_decide_eq_true hc.1.2, of_decide_eq_true hc.2, fin.fg sg fun _ => .str _ (strOk_rep ok _)⟩
    · rw [if_neg hc] at hf; cases hf
  · rename_i a
    cases d' <;> first | cases hf | skip
    rename_i k
    have hf : (if (decide (-(2 ^ 63) ≤ k) && decide (k < 2 ^ 63) && decide (a.length * k.toNat ≤ sizeLine)) = true then some (Ow.o, PyData.list (List.replicate k.toNat a).flatten) else none) = some r := hf
    by_cases hc : (decide (-(2 ^ 63) ≤ k) && decide (k < 2 ^ 63) && decide (a.length * k.toNat ≤ sizeLine)) = true
    · rw [if_pos hc] at hf
      cases hf
      rw [Bool.and_eq_true, Bool.and_eq_true] at hc
      obtain ⟨p, xs, rfl, q1, z1⟩ := r1.list sg
      cases r2.int
      exact op_repR pins s σ H _ _ v u Q I rx ry ⟨p, k, xs, rfl, rfl, q1, of_decide_eq_true hc.1.1, of_decide_eq_true hc.1.2, by rw [z1.len]; exact of_decide_eq_true hc.2, fin.lst sg (z1.rep _)⟩
    · rw [if_neg hc] at hf; cases hf
/-! ### comparisons -/
def fCmp (c : Int → Int → Bool) (s : Str → Str → Option Bool) : OpF
  | [.int i, .int j] => some (.f, .bool (c i j))
  | [.str a, .str b] => (s a b).map fun b => (.f, .bool b)
  | _ => none
def ltS (a b : Str) : Bool := decide (a.cps.toList < b.cps.toList)
def fLt : OpF := fCmp (fun i j => decide (i < j)) fun a b => some (ltS a b)
def fLe : OpF := fCmp (fun i j => decide (i ≤ j)) fun _ _ => none
def fGt : OpF := fCmp (fun i j => decide (j < i)) fun _ _ => none
def fGe : OpF := fCmp (fun i j => decide (j ≤ i)) fun _ _ => none
theorem rD2_cmp {c : Int → Int → Bool} {t : Str → Str → Option Bool} {x y : V} {Q : VK} (h : rD2 K (fCmp c t) x y H Q) : ∃ G, Same G H ∧ ((∃ i j, x = .int i ∧ y = .int j ∧ Fin K H G (.f, .bool (c i j)) Q) ∨ ∃ a b k, x = .str a ∧ y = .str b ∧ t a b = some k ∧ Fin K H G (.f, .bool k) Q) := by
  obtain ⟨G, ds, r, s, rt, hf, fin⟩ := h
  obtain ⟨d, d', rfl, r1, r2⟩ := rt.two
  cases d <;> first | cases hf | skip
  · rename_i i
    cases d' <;> first | cases hf | skip
    rename_i j
    exact ⟨G, s, .inl ⟨i, j, r1.int, r2.int, fin⟩⟩
  · rename_i a
    cases d' <;> first | cases hf | skip
    rename_i b
    have hf : (t a b).map (fun b => (Ow.f, PyData.bool b)) = some r := hf
    cases q : t a b with
    | none => rw [q] at hf; cases hf
    | some k =>
      rw [q] at hf
      cases hf
      exact ⟨G, s, .inr ⟨a, b, k, r1.str.1, r2.str.1, q, fin⟩⟩
theorem opr_lt : OpR X (compareOp .Lt) (rD2 X.K fLt) := fun pins s σ H x y v u Q I rx ry h => by
  obtain ⟨G, sg, ⟨i, j, rfl, rfl, fin⟩ | ⟨a, b, k, rfl, rfl, hk, fin⟩⟩ := rD2_cmp h
  · exact op_lt pins s σ H _ _ v u Q I rx ry ⟨i, j, rfl, rfl, fin.fg sg fun _ => .bl _⟩
  · cases hk
    exact op_lt_str pins s σ H _ _ v u Q I rx ry ⟨a, b, rfl, rfl, fin.fg sg fun _ => .bl _⟩
theorem opr_le : OpR X (compareOp .LtE) (rD2 X.K fLe) := fun pins s σ H x y v u Q I rx ry h => by
  obtain ⟨G, sg, ⟨i, j, rfl, rfl, fin⟩ | ⟨a, b, k, rfl, rfl, hk, fin⟩⟩ := rD2_cmp h
  · exact op_le pins s σ H _ _ v u Q I rx ry ⟨i, j, rfl, rfl, fin.fg sg fun _ => .bl _⟩
  · cases hk
theorem opr_gt : OpR X (compareOp .Gt) (rD2 X.K fGt) := fun pins s σ H x y v u Q I rx ry h => by
  obtain ⟨G, sg, ⟨i, j, rfl, rfl, fin⟩ | ⟨a, b, k, rfl, rfl, hk, fin⟩⟩ := rD2_cmp h
  · exact op_gt pins s σ H _ _ v u Q I rx ry ⟨i, j, rfl, rfl, fin.fg sg fun _ => .bl _⟩
  · cases hk
theorem opr_ge : OpR X (compareOp .GtE) (rD2 X.K fGe) := fun pins s σ H x y v u Q I rx ry h => by
  obtain ⟨G, sg, ⟨i, j, rfl, rfl, fin⟩ | ⟨a, b, k, rfl, rfl, hk, fin⟩⟩ := rD2_cmp h
  · exact op_ge pins s σ H _ _ v u Q I rx ry ⟨i, j, rfl, rfl, fin.fg sg fun _ => .bl _⟩
  · cases hk
/-- == and != -/
theorem op_eqM (hu : X.A.units + 64 < cLine) : OpR X (compareOp .Eq) (rEqM X.K false) := by
  intro pins s σ H x y v u Q I rx ry h
  obtain ⟨d, e, hd, he, ld, le, hm, q⟩ := h
  obtain ⟨as, r1⟩ := Dp.reads I d x v hd rx
  obtain ⟨bs, r2⟩ := Dp.reads I e y u he ry
  rw [Bool.false_bne] at q
  exact SeqAt.compareEq_reads r1 r2 ld le (by omega) ⟨.bl _, H, I, rfl, q⟩
theorem op_neM (hu : X.A.units + 64 < cLine) : OpR X (compareOp .NotEq) (rEqM X.K true) := by
  intro pins s σ H x y v u Q I rx ry h
  obtain ⟨d, e, hd, he, ld, le, hm, q⟩ := h
  obtain ⟨as, r1⟩ := Dp.reads I d x v hd rx
  obtain ⟨bs, r2⟩ := Dp.reads I e y u he ry
  rw [Bool.true_bne] at q
  exact SeqAt.compareNe_reads r1 r2 ld le (by omega) ⟨.bl _, H, I, rfl, q⟩
def fEqM (ne : Bool) : OpF
  | [d, e] => if min d.depth e.depth ≤ 64 then some (.f, .bool (ne != PyData.eqv d e)) else none
  | _ => none
theorem ops_eqM {ne : Bool} : OpS K (lift2 (rEqM K ne)) (fEqM ne) := OpS.of2 fun v u d d' x H G Q s r1 r2 hf fin => by
  have hf : (if min d.depth d'.depth ≤ 64 then some (Ow.f, PyData.bool (ne != PyData.eqv d d')) else none) = some x := hf
  by_cases hm : min d.depth d'.depth ≤ 64
  · rw [if_pos hm] at hf
    cases hf
    have z1 := r1.fz s
    have z2 := r2.fz s
    exact ⟨d, d', z1.dp, z2.dp, z1.lay, z2.lay, hm, fin.fg s fun _ => .bl _⟩
  · rw [if_neg hm] at hf; cases hf
end
end Ev
end

section
set_option Elab.async false
set_option linter.all false
set_option maxRecDepth 100000
set_option maxHeartbeats 1000000
/-! Subscripts, slices. -/
namespace Ev
open PySem PySem.Spec PyProof.Rows L2
section
variable {X : Cx} {K : PySem.W.Frag} {EK : EKT} {W : WX} {cl : Cl} {G G' H H' : Hp} {P P' : Nat → Addr → Prop} {F F' T T' : Addr → Prop} {e e' : En} {σ σ' : L2.St} {Pr : List Nat} {D : Ends}
def fIx : OpF
  | [.list ds, .int i] => (atI ds i).map fun d => (.f, d)
  | [.tuple ds, .int i] => (atI ds i).map fun d => (.f, d)
  | [.str z, .int i] => if z.length ≤ sizeLine then (atI z.cps.toList i).map fun c => (.f, chD c) else none
  | _ => none
theorem FzA.atI {xs : List V} {ds : List PyData} {i : Int} {d : PyData} (z : FzA K G xs ds) (h : L2.atI ds i = some d) : ∃ v, L2.atI xs i = some v ∧ Fz K G v d := by
  unfold L2.atI at h ⊢
  rw [z.len]
  cases q : ixN ds.length i with
  | none => rw [q] at h; cases h
  | some j =>
    rw [q] at h
    exact z.get h
theorem strOk_ch {z : Str} {c : Nat} (h : PyData.strOk z = true) (hc : c ∈ z.cps.toList) : PyData.strOk ⟨#[c]⟩ = true := by
  unfold PyData.strOk at h ⊢
  rw [Array.all_eq_true'] at h ⊢
  intro x hx
  have : x = c := by simpa using hx
  subst this
  exact h x (by simpa using hc)
theorem atI_mem {α : Type} {xs : List α} {i : Int} {x : α} (h : L2.atI xs i = some x) : x ∈ xs := by
  unfold L2.atI at h
  cases q : ixN xs.length i with
  | none => rw [q] at h; cases h
  | some j =>
    rw [q] at h
    exact List.mem_of_getElem? h
theorem ixr : IxR X (rD2 X.K fIx) := fun value slice pins s σ H x y v u Q I rx ry h hs => by
  obtain ⟨G, ds, r, sg, rt, hf, fin⟩ := h
  obtain ⟨d, d', rfl, r1, r2⟩ := rt.two
  cases d <;> first | cases hf | skip
  · rename_i z
    cases d' <;> first | cases hf | skip
    rename_i i
    have hf : (if z.length ≤ sizeLine then (L2.atI z.cps.toList i).map fun c => (Ow.f, chD c) else none) = some r := hf
    by_cases hc : z.length ≤ sizeLine
    · rw [if_pos hc] at hf
      cases q : L2.atI z.cps.toList i with
      | none => rw [q] at hf; cases hf
      | some c =>
        rw [q] at hf
        cases hf
        obtain ⟨rfl, ok⟩ := r1.str
        cases r2.int
        exact ix_str value slice pins s σ H _ _ v u Q I rx ry ⟨z, i, c, rfl, rfl, hc, q, fin.fg sg fun _ => .str _ (strOk_ch ok (atI_mem q))⟩ hs
    · rw [if_neg hc] at hf; cases hf
  · rename_i es
    cases d' <;> first | cases hf | skip
    rename_i i
    have hf : ((L2.atI es i).map fun d => (Ow.f, d)) = some r := hf
    cases q : L2.atI es i with
    | none => rw [q] at hf; cases hf
    | some d =>
      rw [q] at hf
      cases hf
      cases r2.int
      obtain ⟨p, xs, rfl, hq, z⟩ := r1.list sg
      obtain ⟨w, hw, fz⟩ := z.atI q
      exact ix_list value slice pins s σ H _ _ v u Q I rx ry ⟨p, xs, i, w, rfl, rfl, .inl hq, hw, fin.f sg fz⟩ hs
  · rename_i es
    cases d' <;> first | cases hf | skip
    rename_i i
    have hf : ((L2.atI es i).map fun d => (Ow.f, d)) = some r := hf
    cases q : L2.atI es i with
    | none => rw [q] at hf; cases hf
    | some d =>
      rw [q] at hf
      cases hf
      cases r2.int
      obtain ⟨p, xs, rfl, hq, z, _⟩ := r1.tuple sg
      obtain ⟨w, hw, fz⟩ := z.atI q
      exact ix_tup value slice pins s σ H _ _ v u Q I rx ry ⟨p, xs, i, w, rfl, rfl, hq.t, hw, fin.f sg fz⟩ hs
/-- any subscript by the frozen or looked at, a list's own rule beside it -/
def rIxE (K : PySem.W.Frag) : R2 := fun x y H Q => rD2 K fIx x y H Q ∨ rIxL K x y H Q
theorem ixrE : IxR X (rIxE X.K) := ixr.or ix_list
theorem ops_ixE : OpS K (lift2 (rIxE K)) fIx := OpS.of2 (fun v u d d' x H G Q s r1 r2 hf fin => .inl ⟨G, _, x, s, .cons r1 (.cons r2 .nil), hf, fin⟩) (fun ds h => by
  rcases ds with _ | ⟨d, _ | ⟨d', _ | ⟨d'', ds⟩⟩⟩
  · rfl
  · cases d <;> rfl
  · exact absurd rfl h
  · cases d <;> first | rfl | (cases d' <;> rfl))
/-! ### slices -/
def cutD {α : Type} (xs : List α) (lo hi : Option Int) : List α := (xs.drop (HT.sIx xs.length 0 lo)).take (HT.sIx xs.length xs.length hi - HT.sIx xs.length 0 lo)
def fSl (lo hi : Option Int) : PyData → Option Vl
  | .list ds => some (.o, .list (cutD ds lo hi))
  | .tuple ds => some (.f, .tuple (cutD ds lo hi))
  | .str z => if z.length ≤ sizeLine then some (.f, .str ⟨(cutD z.cps.toList lo hi).toArray⟩) else none
  | _ => none
def rDSl (K : PySem.W.Frag) : V → Option Int → Option Int → Hp → VK → Prop := fun x lo hi H Q => ∃ G d r, Same G H ∧ Rt K H G x d ∧ fSl lo hi d = some r ∧ Fin K H G r Q
theorem FzA.cut {xs : List V} {ds : List PyData} (z : FzA K G xs ds) (lo hi : Option Int) : FzA K G (cutV xs lo hi) (cutD ds lo hi) := by
  unfold cutV cutD
  rw [z.len]
  exact (z.drop _).take _
theorem strOk_sub {z : Str} {l : List Nat} (h : PyData.strOk z = true) (hc : ∀ c ∈ l, c ∈ z.cps.toList) : PyData.strOk ⟨l.toArray⟩ = true := by
  unfold PyData.strOk at h ⊢
  rw [Array.all_eq_true'] at h ⊢
  intro x hx
  exact h x (by simpa using hc x (by simpa using hx))
theorem cut_whole {α : Type} {xs : List α} {lo hi : Option Int} (h : HT.sIx xs.length 0 lo = 0 ∧ HT.sIx xs.length xs.length hi = xs.length) : cutD xs lo hi = xs := by
  unfold cutD
  rw [h.1, h.2]
  simp
theorem slr : SlR X (rDSl X.K) := fun pins s σ H x v vl vu lo hi sl Q I rx hs pl pu h => by
  obtain ⟨G, d, r, sg, r1, hf, fin⟩ := h
  cases d <;> first | cases hf | skip
  · rename_i z
    have hf : (if z.length ≤ sizeLine then some (Ow.f, PyData.str ⟨(cutD z.cps.toList lo hi).toArray⟩) else none) = some r := hf
    by_cases hc : z.length ≤ sizeLine
    · rw [if_pos hc] at hf
      cases hf
      obtain ⟨rfl, ok⟩ := r1.str
      have e : cutS z lo hi = ⟨(cutD z.cps.toList lo hi).toArray⟩ := by
        unfold cutS cutD
        simp [Str.length]
      refine sl_str pins s σ H _ v vl vu lo hi sl Q I rx hs pl pu ⟨z, rfl, hc, ?_⟩
      rw [e]
      exact fin.fg sg fun _ => .str _ (strOk_sub ok fun c hc => List.mem_of_mem_drop (List.mem_of_mem_take hc))
    · rw [if_neg hc] at hf; cases hf
  · obtain ⟨p, xs, rfl, hq, z⟩ := r1.list sg
    exact sl_list pins s σ H _ v vl vu lo hi sl Q I rx hs pl pu ⟨p, xs, rfl, .inl hq, fin.lst sg (z.cut lo hi)⟩
  · obtain ⟨p, xs, rfl, hq, z, fz⟩ := r1.tuple sg
    refine sl_tupN pins s σ H _ v vl vu lo hi sl Q I rx hs pl pu ⟨p, xs, rfl, hq.t, fun w => ?_, fun w => fin.tup sg (z.cut lo hi)⟩
    rw [z.len] at w
    rw [cut_whole w] at fin
    exact fin.f sg fz
/-- an int comes -/
def cInt (c : CE) : CE := fun cl e => (c cl e).bind fun p => match p.2.2 with
  | .int _ => .ok p
  | _ => .no
theorem te_int {c : CE} {Q : VK} (h : rdE K EK W cl (cInt c) σ H Q) : rdE K EK W cl c σ H fun x H1 => ∃ i, x = .int i ∧ Q x H1 := by
  obtain ⟨e, G, F, P, x, h⟩ := h
  refine ⟨e, G, F, P, x, ?_⟩
  cases q : c cl e with
  | no => simp only [cInt, q, R.bind] at h
  | ex n d e' => simp only [cInt, q, R.bind] at h; exact h
  | ok p =>
    obtain ⟨e1, ow, d⟩ := p
    simp only [cInt, q, R.bind] at h
    intro v H1 G1 F1 T1 x1 r s1
    cases d with
    | int i =>
      simp only at h
      have hv : v = .int i := by
        cases ow with
        | f => cases r; rfl
        | l => exact r.elim
        | o => obtain ⟨a, xs, ds, _, e, _⟩ := r; cases e
        | b => obtain ⟨a, b, xs, ys, ds, es, _, e, _⟩ := r; cases e
      exact ⟨i, hv, h v H1 G1 F1 T1 x1 r s1⟩
    | _ => simp only at h
def fSlAB : OpF
  | [d, .int a, .int b] => fSl (some a) (some b) d
  | _ => none
def fSlA : OpF
  | [d, .int a] => fSl (some a) none d
  | _ => none
def fSlB : OpF
  | [d, .int b] => fSl none (some b) d
  | _ => none
def fSl0 : OpF
  | [d] => fSl none none d
  | _ => none
theorem te_slAB {a : Ar} {l h : CE} {Q : VK} (hh : rdE K EK W cl (cOp fSlAB [a, .v (cInt l), .v (cInt h)]) σ H Q) : tSl (rDSl K) (rd1 K EK W cl a) (tPart (rdE K EK W cl l)) (tPart (rdE K EK W cl h)) σ H Q := by
  refine rd1.imp (te_D3 hh) fun v H1 q => ?_
  refine rdE.imp (te_int q) fun u H2 ⟨i, eu, q⟩ => ⟨i, eu, ?_⟩
  refine rdE.imp (te_int q) fun w H3 ⟨j, ew, q⟩ => ⟨j, ew, ?_⟩
  obtain ⟨G, ds, r, sg, rt, hf, fin⟩ := q
  obtain ⟨d, d', d'', rfl, r1, r2, r3⟩ := rt.three
  cases d' <;> first | cases hf | skip
  cases d'' <;> first | cases hf | skip
  have h1 := r2.int
  have h2 := r3.int
  rw [eu] at h1
  rw [ew] at h2
  cases h1
  cases h2
  exact ⟨G, d, r, sg, r1, hf, fin⟩
theorem te_slA {a : Ar} {l : CE} {Q : VK} (hh : rdE K EK W cl (cOp fSlA [a, .v (cInt l)]) σ H Q) : tSl (rDSl K) (rd1 K EK W cl a) (tPart (rdE K EK W cl l)) tNoPart σ H Q := by
  refine rd1.imp (te_D2 hh) fun v H1 q => ?_
  refine rdE.imp (te_int q) fun u H2 ⟨i, eu, q⟩ => ⟨i, eu, ?_⟩
  obtain ⟨G, ds, r, sg, rt, hf, fin⟩ := q
  obtain ⟨d, d', rfl, r1, r2⟩ := rt.two
  cases d' <;> first | cases hf | skip
  have h1 := r2.int
  rw [eu] at h1
  cases h1
  exact ⟨G, d, r, sg, r1, hf, fin⟩
theorem te_slB {a : Ar} {l : CE} {Q : VK} (hh : rdE K EK W cl (cOp fSlB [a, .v (cInt l)]) σ H Q) : tSl (rDSl K) (rd1 K EK W cl a) tNoPart (tPart (rdE K EK W cl l)) σ H Q := by
  refine rd1.imp (te_D2 hh) fun v H1 q => ?_
  refine rdE.imp (te_int q) fun u H2 ⟨i, eu, q⟩ => ⟨i, eu, ?_⟩
  obtain ⟨G, ds, r, sg, rt, hf, fin⟩ := q
  obtain ⟨d, d', rfl, r1, r2⟩ := rt.two
  cases d' <;> first | cases hf | skip
  have h1 := r2.int
  rw [eu] at h1
  cases h1
  exact ⟨G, d, r, sg, r1, hf, fin⟩
theorem te_sl0 {a : Ar} {Q : VK} (hh : rdE K EK W cl (cOp fSl0 [a]) σ H Q) : tSl (rDSl K) (rd1 K EK W cl a) tNoPart tNoPart σ H Q := by
  refine rd1.imp (te_D1 hh) fun v H1 q => ?_
  obtain ⟨G, ds, r, sg, rt, hf, fin⟩ := q
  obtain ⟨d, rfl, r1⟩ := rt.one
  exact ⟨G, d, r, sg, r1, hf, fin⟩
/-! ### [::-1] -/
def fRev : OpF
  | [.list ds] => some (.o, .list ds.reverse)
  | [.str z] => if z.length ≤ sizeLine then some (.f, .str ⟨z.cps.toList.reverse.toArray⟩) else none
  | _ => none
theorem strRev_ix (z : Str) : (Builtin.Str.strSliceIndices none none (-1) z.length).filterMap (z.cps[·]?) = z.cps.toList.reverse := by
  have e : Builtin.Str.strSliceIndices none none (-1) z.length = (List.range z.length).reverse := by
    unfold Builtin.Str.strSliceIndices
    show sliceRange ((z.length : Int) - 1) (-1) (-1) = _
    rw [PySem.W.krv_sliceRange, PySem.W.krv_range]
  rw [e, List.filterMap_reverse]
  have := PySem.W.krv_all z.cps
  unfold Str.length
  rw [this]
theorem rev_run {e : Expr} {te : TE} {k : Nat} {p1 p2 p3 pos : Pos} (he : PE X e te) : ∀ (pins : List (Addr × Obj)) (s : Shared) (σ : L2.St) (H : Hp) (Q : VK), Inv X pins σ H s → tUn (rD1 X.K fRev) te σ H Q → wpAny (model X.prog X.w) X.A (eval (.Subscript e (.Slice none none (some (.UnaryOp .USub (.Constant (.int 1) k p1) p2)) p3) pos) X.env) (fun u s' => EP X pins σ Q u s' ∧ ((∃ a, u = Value.ref a) ∨ s'.toks ≠ 0)) X.xe s := by
  intro pins s σ H Q I h
  refine Subscript_ (thn (he.run pins s σ H _ I h) fun v s1 ⟨x, H1, I1, r1, q1⟩ => ?_)
  obtain ⟨G, ds, r, sg, rt, hf, fin⟩ := q1
  obtain ⟨d, rfl, rt1⟩ := rt.one
  have hst : PO X (some (.UnaryOp .USub (.Constant (.int 1) k p1) p2)) (tPart (tUn (rU fun i => .int (-i)) (tC (.int 1)))) := po_some (pe_un un_neg pe_int)
  refine wpAny_Slice (thn (po_none.run pins s1 σ H1 (fun o H2 => o = none ∧ H2 = H1) I1 ⟨rfl, rfl⟩) fun vl s2 ⟨l, H2, I2, pl, el, e2⟩ => ?_)
  subst el e2
  refine thn (po_none.run pins s2 σ H2 (fun o H3 => o = none ∧ H3 = H2) I2 ⟨rfl, rfl⟩) fun vu s3 ⟨u, H3, I3, pu, eu, e3⟩ => ?_
  subst eu e3
  refine thn (hst.run pins s3 σ H3 (fun o H4 => o = some (-1) ∧ H4 = H3) I3 ⟨1, rfl, -1, rfl, rfl, rfl⟩) fun vs s4 ⟨o, H4, I4, ps, eo, e4⟩ => ?_
  subst eo e4
  have I5 : Inv X pins σ H4 { s4 with heap := s4.heap.push { cls := .type "slice", data := .fields #[vl, vu, vs] } } := I4.kept (t' := s4.toks) fun b ob q => Heap.get?_push_of_some _ q
  cases d <;> first | cases hf | skip
  · rename_i z
    have hf : (if z.length ≤ sizeLine then some (Ow.f, PyData.str ⟨z.cps.toList.reverse.toArray⟩) else none) = some r := hf
    by_cases hc : z.length ≤ sizeLine
    · rw [if_pos hc] at hf
      cases hf
      obtain ⟨rfl, ok⟩ := rt1.str
      obtain ⟨t, rfl⟩ := r1
      have fq : Q (.str ⟨z.cps.toList.reverse.toArray⟩) H4 := fin.fg sg fun _ => .str _ (strOk_sub ok fun c hc => by simpa using hc)
      show wpAny (model X.prog X.w) X.A (subscriptTail e (.Slice none none (some (.UnaryOp .USub (.Constant (.int 1) k p1) p2)) p3) (.str z t) (.ref s4.heap.objs.size)) (fun u s' => EP X pins σ Q u s' ∧ ((∃ a, u = Value.ref a) ∨ s'.toks ≠ 0)) X.xe { s4 with heap := s4.heap.push { cls := .type "slice", data := .fields #[vl, vu, vs] } }
      refine tail_any (ops := [.str z t, .ref s4.heap.objs.size]) (typeIs_str _ z t) (F.slot_str_getitem.lookup) ?_ (by with_unfolding_all rfl)
      obtain ⟨os, hos, hcs, hds⟩ : ({ s4 with heap := s4.heap.push { cls := .type "slice", data := .fields #[vl, vu, vs] } } : Shared).heap.IsSliceOf s4.heap.objs.size vl vu vs := Heap.IsSliceOf.new _ vl vu vs
      obtain ⟨l', rfl, e1⟩ := IsPart.raw pl
      obtain ⟨u', rfl, e2⟩ := IsPart.raw pu
      obtain ⟨st', rfl, e3⟩ := IsPart.raw ps
      cases l' with
      | some _ => cases e1
      | none =>
        cases u' with
        | some _ => cases e2
        | none =>
          cases st' with
          | none => cases e3
          | some st' =>
            obtain ⟨i, tt⟩ := st'
            have ei : i = -1 := by simpa using e3
            subst ei
            refine wpAny_getItem_str_slice (l := none) (u := none) (st := some (-1, tt)) ⟨os, hos, hcs, hds⟩ rfl ?_
            show Made.post (if ((-1 : Int) == 1 && (Builtin.Str.strSliceIndices none none (-1) z.length).length == z.length) = true then Made.val (.str z t)
              else Made.str ⟨((Builtin.Str.strSliceIndices none none (-1) z.length).filterMap (z.cps[·]?)).toArray⟩) (fun u s' => EP X pins σ Q u s' ∧ ((∃ a, u = Value.ref a) ∨ s'.toks ≠ 0)) _
            rw [if_neg (by simp), strRev_ix]
            have hl : (⟨z.cps.toList.reverse.toArray⟩ : Str).length ≤ sizeLine := by
              show z.cps.toList.reverse.toArray.size ≤ sizeLine
              simpa [Str.length] using hc
            exact ⟨hl, ⟨.str _, H4, I5.tok _, ⟨_, rfl⟩, fq⟩, .inr (Nat.succ_ne_zero _)⟩
    · rw [if_neg hc] at hf; cases hf
  · obtain ⟨a, xs, rfl, hx, z⟩ := rt1.list sg
    cases r1
    obtain ⟨its, r, ht, hz⟩ := I5.list (.inl hx)
    have hlen := r.length
    show wpAny (model X.prog X.w) X.A (subscriptTail e (.Slice none none (some (.UnaryOp .USub (.Constant (.int 1) k p1) p2)) p3) (.ref a) (.ref s4.heap.objs.size)) (fun u s' => EP X pins σ Q u s' ∧ ((∃ a, u = Value.ref a) ∨ s'.toks ≠ 0)) X.xe { s4 with heap := s4.heap.push { cls := .type "slice", data := .fields #[vl, vu, vs] } }
    refine tail_any (ops := [.ref a, .ref s4.heap.objs.size]) ht.isList.typeIs (PySem.slot_list_getitem.lookup) ?_ (by with_unfolding_all rfl)
    refine wpAny_getItem_list_slice ht.isList (Heap.IsSliceOf.new _ vl vu vs) pl pu ps (by decide) ?_ (by rw [List.size_toArray]; omega)
    rw [PySem.W.krv_pick]
    refine ⟨⟨.ref _, _, I5.laid (t' := s4.toks) (o := .lst xs.reverse) (fun b ob q => Heap.get?_push_of_some _ q) (Nat.le_refl _) ?_, rfl, fin.lst sg z.reverse _ (I5.hok.fresh (Nat.le_refl _))⟩, .inl ⟨_, rfl⟩⟩
    exact ⟨by rw [List.length_reverse]; exact hz, _, 0, r.reverse, Heap.get?_push_size _ rfl⟩
theorem pe_revE {e : Expr} {te : TE} {k : Nat} {p1 p2 p3 pos : Pos} (he : PE X e te) : PE X (.Subscript e (.Slice none none (some (.UnaryOp .USub (.Constant (.int 1) k p1) p2)) p3) pos) (tUn (rD1 X.K fRev) te) :=
  ⟨fun pins s σ H Q I h => thn (rev_run he pins s σ H Q I h) fun _ _ q => q.1⟩
/-! e[::-1].replace(y, z) -/
def fReplC (y z : Str) : OpF
  | [.str x] => if x.length + (x.length + 1) * z.length ≤ 16777216 ∧ PyData.strOk (Txt.replace x y z) = true then some (.f, .str (Txt.replace x y z)) else none
  | _ => none
theorem pe_revRepl {e : Expr} {te : TE} {k j i : Nat} {y z : Str} {p1 p2 p3 p4 c0 c1 apos pos : Pos} (he : PE X e te) (hyz : (y == z) = false := by decide)
    (hst : starEach [.Constant (.str y) j c0, .Constant (.str z) i c1] X.env = [(false, eval (.Constant (.str y) j c0) X.env), (false, eval (.Constant (.str z) i c1) X.env)] := by rfl)
    (hbase : attributeBase (.Subscript e (.Slice none none (some (.UnaryOp .USub (.Constant (.int 1) k p1) p2)) p3) p4) "replace" X.env (eval (.Subscript e (.Slice none none (some (.UnaryOp .USub (.Constant (.int 1) k p1) p2)) p3) p4) X.env) = eval (.Subscript e (.Slice none none (some (.UnaryOp .USub (.Constant (.int 1) k p1) p2)) p3) p4) X.env := by rfl)
    (hline : (apos.endLine == pos.line) = true := by rfl) :
    PE X (.Call (.Attribute (.Subscript e (.Slice none none (some (.UnaryOp .USub (.Constant (.int 1) k p1) p2)) p3) p4) "replace" apos) [.Constant (.str y) j c0, .Constant (.str z) i c1] [] pos) (tUn (rD1 X.K (fReplC y z)) (tUn (rD1 X.K fRev) te)) := by
  refine ⟨fun pins s σ H Q I h => ?_⟩
  refine PySem.Call_method2 hbase hst hline (thn (rev_run he pins s σ H _ I h) fun v s1 q => ?_)
  obtain ⟨⟨x, H1, I1, r1, G, ds, r, sg, rt, hf, fin⟩, htk⟩ := q
  obtain ⟨d, rfl, rt1⟩ := rt.one
  cases d <;> first | cases hf | skip
  rename_i x
  have hf : (if x.length + (x.length + 1) * z.length ≤ 16777216 ∧ PyData.strOk (Txt.replace x y z) = true then some (Ow.f, PyData.str (Txt.replace x y z)) else none) = some r := hf
  by_cases hc : x.length + (x.length + 1) * z.length ≤ 16777216 ∧ PyData.strOk (Txt.replace x y z) = true
  · rw [if_pos hc] at hf
    cases hf
    obtain ⟨rfl, ok⟩ := rt1.str
    obtain ⟨tx, rfl⟩ := r1
    have hk : s1.toks ≠ 0 := htk.elim (fun ⟨a, e⟩ => by cases e) id
    refine ⟨"str", _, PySem.F.plainAttrs_str, PySem.F.slot_str_replace, PySem.F.type_str_replace, typeIs_str _ _ _, (fun _ e => nomatch e), Calls.callWith_builtin rfl (Calls.evalArgs_plain (Calls.spliced_cons ?_))⟩
    refine Calls.Constant_str (Calls.spliced_cons (Calls.Constant_str (Calls.spliced_nil ?_)))
    exact PySem.SC.replace hk (by show s1.toks + 1 ≠ 0; omega) (by show s1.toks ≠ s1.toks + 1; omega) hyz hc.1 fun t' k => ⟨.str (Txt.replace x y z), H1, I1.tok k, ⟨t', rfl⟩, fin.fg sg fun _ => .str _ hc.2⟩
  · rw [if_neg hc] at hf; cases hf
end
end Ev
end

section
set_option Elab.async false
set_option linter.all false
set_option maxRecDepth 100000
set_option maxHeartbeats 1000000
/-! Calls of built-in functions and types. -/
namespace PySem.W
open PySem PySem.Calls PyProof.Rows
section
variable {prog : Program} {w : World} {A : Around} {E : Value → Shared → Prop} {s : Shared}
/-- sorted of a list or a tuple: a new list, then list.sort -/
theorem ev_sorted_seq {l : Addr} {T : String} {o : Obj} {vs : List Value} {n : Nat} {Q : Value → Shared → Prop} (hT : T = "list" ∨ T = "tuple") (ho : s.heap.get? l = some o) (hc : o.cls = .type T) (hd : o.data = .seq vs.toArray n) (hL : vs.length ≤ sizeLine)
    (body : ∀ h' : Heap, (∀ b o', s.heap.get? b = some o' → h'.get? b = some o') → wpAny (model prog w) A.in1 (call (.builtin "list.sort") [.ref h'.objs.size]) (fun _ s' => Q (.ref h'.objs.size) s') E { s with heap := h'.push (seqObj "list" vs.toArray 0) }) :
    wpAny (model prog w) A (call (.builtin "sorted") [.ref l]) Q E s := by
  refine Calls.call_function_entry kind_sorted plain_sorted entry_sorted (args_sorted1 _) ?_
  unfold Builtin.«sorted»
  refine wpAny_bind (m := checkCount "sorted" 1 1 _) (wpAny_pure ?_)
  refine wpAny_bind (wpAny_collect_seq l hT ho hc hd (fun h' hk => ?_) (by simpa using hL))
  rw [List.toList_toArray]
  refine wpAny_bind (wpAny_newList ?_ hL)
  exact wpAny_bind (wpAny_holding (wpAny_mono (body h' hk) (fun f s' hf => wpAny_pure ⟨_, rfl, hf⟩) fun _ _ e => e))
end
end PySem.W
namespace Ev
open PySem PySem.Spec PyProof.Rows L2
section
variable {X : Cx} {K : PySem.W.Frag} {EK : EKT} {W : WX} {cl : Cl} {G G' H H' : Hp} {P P' : Nat → Addr → Prop} {F F' T T' : Addr → Prop} {e e' : En} {σ σ' : L2.St} {Pr : List Nat} {D : Ends}
theorem rD_1 {f : OpF} {vs : List V} {Q : VK} (h : rD K f vs H Q) (hn : ∀ ds, ds.length ≠ 1 → f ds = none) : ∃ G v d x, vs = [v] ∧ Same G H ∧ Rt K H G v d ∧ f [d] = some x ∧ Fin K H G x Q := by
  obtain ⟨G, ds, x, sg, rt, hf, fin⟩ := h
  cases rt with
  | nil => rw [hn [] (by simp)] at hf; cases hf
  | cons r1 rt =>
    cases rt with
    | nil => exact ⟨G, _, _, x, rfl, sg, r1, hf, fin⟩
    | cons _ _ => rw [hn _ (by simp)] at hf; cases hf
/-- one argument alone -/
def one (g : PyData → Option Vl) : OpF
  | [d] => g d
  | _ => none
theorem rD_one {g : PyData → Option Vl} {vs : List V} {Q : VK} (h : rD K (one g) vs H Q) : ∃ G v d x, vs = [v] ∧ Same G H ∧ Rt K H G v d ∧ g d = some x ∧ Fin K H G x Q :=
  rD_1 h fun ds hl => by rcases ds with _ | ⟨d, _ | ⟨d', ds⟩⟩ <;> first | rfl | exact absurd rfl hl
def gLen : PyData → Option Vl
  | .list ds => some (.f, .int ds.length)
  | .tuple ds => some (.f, .int ds.length)
  | .str z => if z.length ≤ sizeLine then some (.f, .int z.length) else none
  | _ => none
def fLen : OpF := one gLen
theorem cr_len : CallR X (.builtin "len") (rD X.K fLen) := fun pins s σ H xs us Q I r h => by
  obtain ⟨G, v, d, x, rfl, sg, r1, hf, fin⟩ := rD_one h
  cases d <;> first | cases hf | skip
  · rename_i z
    have hf : (if z.length ≤ sizeLine then some (Ow.f, PyData.int z.length) else none) = some x := hf
    by_cases hc : z.length ≤ sizeLine
    · rw [if_pos hc] at hf
      cases hf
      obtain ⟨rfl, ok⟩ := r1.str
      exact call_len_str pins s σ H _ us Q I r ⟨z, rfl, hc, fin.fg sg fun _ => .int _⟩
    · rw [if_neg hc] at hf; cases hf
  · rename_i ds
    obtain ⟨p, xs, rfl, hq, z⟩ := r1.list sg
    exact call_len_seq pins s σ H _ us Q I r ⟨p, xs, rfl, .inl (.inl hq), by rw [z.len]; exact fin.fg sg fun _ => .int _⟩
  · rename_i ds
    obtain ⟨p, xs, rfl, hq, z, _⟩ := r1.tuple sg
    exact call_len_seq pins s σ H _ us Q I r ⟨p, xs, rfl, .inr hq.t, by rw [z.len]; exact fin.fg sg fun _ => .int _⟩
def gInt : PyData → Option Vl
  | .int i => some (.f, .int i)
  | .bool b => some (.f, .int (if b then 1 else 0))
  | _ => none
def fInt : OpF := one gInt
theorem cr_int : CallR X (.type "int") (rD X.K fInt) := fun pins s σ H xs us Q I r h => by
  obtain ⟨G, v, d, x, rfl, sg, r1, hf, fin⟩ := rD_one h
  cases d <;> first | cases hf | skip
  · cases r1.bool
    exact call_int1 pins s σ H _ us Q I r (.inr ⟨_, rfl, fin.fg sg fun _ => .int _⟩)
  · cases r1.int
    exact call_int1 pins s σ H _ us Q I r (.inl ⟨_, rfl, fin.fg sg fun _ => .int _⟩)
def gAbs : PyData → Option Vl
  | .int i => some (.f, .int (if i < 0 then -i else i))
  | _ => none
def fAbs : OpF := one gAbs
theorem cr_abs : CallR X (.builtin "abs") (rD X.K fAbs) := fun pins s σ H xs us Q I r h => by
  obtain ⟨G, v, d, x, rfl, sg, r1, hf, fin⟩ := rD_one h
  cases d <;> first | cases hf | skip
  cases r1.int
  exact call_abs pins s σ H _ us Q I r ⟨_, rfl, fin.fg sg fun _ => .int _⟩
def gStr : PyData → Option Vl
  | .str a => some (.f, .str a)
  | _ => none
def fStr : OpF := one gStr
theorem cr_str : CallR X (.type "str") (rD X.K fStr) := fun pins s σ H xs us Q I r h => by
  obtain ⟨G, v, d, x, rfl, sg, r1, hf, fin⟩ := rD_one h
  cases d <;> first | cases hf | skip
  obtain ⟨rfl, ok⟩ := r1.str
  exact SkE.call_str_str pins s σ H _ us Q I r ⟨_, rfl, fin.fg sg fun _ => .str _ ok⟩
def gTuple : PyData → Option Vl
  | .list ds => some (.f, .tuple ds)
  | .tuple ds => some (.f, .tuple ds)
  | _ => none
def fTuple : OpF := one gTuple
theorem cr_tuple : CallR X (.type "tuple") (rD X.K fTuple) := fun pins s σ H xs us Q I r h => by
  obtain ⟨G, v, d, x, rfl, sg, r1, hf, fin⟩ := rD_one h
  cases d <;> first | cases hf | skip
  · obtain ⟨p, xs, rfl, hq, z⟩ := r1.list sg
    exact call_tupleN pins s σ H _ us Q I r ⟨p, xs, rfl, .inl ⟨.inl hq, fin.tup sg z⟩⟩
  · obtain ⟨p, xs, rfl, hq, z, fz⟩ := r1.tuple sg
    exact call_tupleN pins s σ H _ us Q I r ⟨p, xs, rfl, .inr ⟨hq.t, fin.f sg fz⟩⟩
def gList : PyData → Option Vl
  | .list ds => some (.o, .list ds)
  | .tuple ds => some (.o, .list ds)
  | _ => none
def fList : OpF := one gList
theorem cr_list : CallR X (.type "list") (rD X.K fList) := fun pins s σ H xs us Q I r h => by
  obtain ⟨G, v, d, x, rfl, sg, r1, hf, fin⟩ := rD_one h
  cases d <;> first | cases hf | skip
  · obtain ⟨p, xs, rfl, hq, z⟩ := r1.list sg
    exact call_list_of pins s σ H _ us Q I r ⟨p, xs, rfl, .inl (.inl hq), fin.lst sg z⟩
  · obtain ⟨p, xs, rfl, hq, z, fz⟩ := r1.tuple sg
    exact call_list_of pins s σ H _ us Q I r ⟨p, xs, rfl, .inr hq.t, fin.lst sg z⟩
/-! ### repr -/
def gRepr (d : PyData) : Option Vl := if d.showable = true ∧ d.hasDict = false ∧ d.shown.length ≤ sizeLine ∧ d.depth ≤ 64 ∧ PyData.strOk d.shown = true then some (.f, .str d.shown) else none
def fRepr : OpF := one gRepr
theorem cr_repr (hg : X.A.guards = some []) (hu : X.A.units + 66 < cLine) : CallR X (.builtin "repr") (rD X.K fRepr) := fun pins s σ H xs us Q I r h => by
  obtain ⟨G, v, d, x, rfl, sg, r1, hf, fin⟩ := rD_one h
  unfold gRepr at hf
  by_cases hc : d.showable = true ∧ d.hasDict = false ∧ d.shown.length ≤ sizeLine ∧ d.depth ≤ 64 ∧ PyData.strOk d.shown = true
  · rw [if_pos hc] at hf
    cases hf
    obtain ⟨h1, h2, h3, h4, h5⟩ := hc
    have fz := r1.fz sg
    obtain ⟨u, rfl, ru⟩ := r.one
    obtain ⟨as, rd⟩ := Dp.reads I d v u fz.dp ru
    have fq : Q (.str d.shown) H := fin.fg sg fun _ => .str _ h5
    have obj : ∀ a, u = .ref a → wpAny (model X.prog X.w) X.A (call (.builtin "repr") [u]) (EP X pins σ Q) X.xe s := fun a e => by
      subst e
      exact PySem.repr_of_reads' rd h1 (fun z => by rw [h2] at z; cases z) hg (by omega) (fun _ _ e => e) (fun h' t tk hk => ⟨.str d.shown, H, I.kept hk, ⟨t, rfl⟩, fq⟩) h3
    cases d with
    | none =>
      cases fz
      cases ru
      simp only [PyData.shown] at fq
      exact PySem.P.repr_of_none ⟨.str _, H, I.tok _, ⟨_, rfl⟩, fq⟩
    | bool b =>
      cases fz
      cases ru
      simp only [PyData.shown] at fq
      exact PySem.P.repr_of_bool ⟨.str _, H, I.tok _, ⟨_, rfl⟩, fq⟩
    | int i =>
      cases fz
      obtain ⟨t, rfl⟩ := ru
      simp only [PyData.shown] at fq
      exact PySem.P.repr_of_int (by simpa [PyData.showable] using h1) ⟨.str _, H, I.tok _, ⟨_, rfl⟩, fq⟩
    | str x =>
      cases fz
      obtain ⟨t, rfl⟩ := ru
      simp only [PyData.shown] at fq h3
      exact PySem.P.repr_of_str ⟨.str _, H, I.tok _, ⟨_, rfl⟩, fq⟩ h3
    | list ds =>
      cases fz
      exact obj _ ru
    | tuple ds =>
      cases fz
      exact obj _ ru
    | dict _ => cases fz
  · rw [if_neg hc] at hf; cases hf
end
end Ev
end

section
set_option Elab.async false
set_option linter.all false
set_option maxRecDepth 100000
set_option maxHeartbeats 1000000
/-! sorted. -/
namespace Ev
open PySem PySem.Spec PyProof.Rows L2
def leD (a b : PyData) : Bool := PySem.W.dataLe false id a b
def insD (a : PyData) : List PyData → List PyData
  | [] => [a]
  | b :: r => if leD a b = true then a :: b :: r else b :: insD a r
def sortD : List PyData → List PyData
  | [] => []
  | a :: l => insD a (sortD l)
theorem leD_total : PySem.W.TotalLe leD := PySem.W.sortLe_total (PyProof.Rows.listOrd PyProof.Rows.itemOrd) false fun b => PySem.W.keyToks b
theorem insD_eq {a : PyData} : ∀ {l1 l2 : List PyData}, (∀ b ∈ l1, leD a b = false) → (∀ b ∈ l2, leD a b = true) → insD a (l1 ++ l2) = l1 ++ a :: l2
  | [], [], _, _ => rfl
  | [], b :: r, _, h => by
    show (if leD a b = true then a :: b :: r else b :: insD a r) = _
    rw [if_pos (h b (List.mem_cons_self ..))]
    rfl
  | b :: l1, l2, h1, h2 => by
    show (if leD a b = true then a :: b :: (l1 ++ l2) else b :: insD a (l1 ++ l2)) = _
    rw [if_neg (by rw [h1 b (List.mem_cons_self ..)]; simp), insD_eq (fun c hc => h1 c (List.mem_cons_of_mem _ hc)) h2]
    rfl
theorem sortD_eq : ∀ l : List PyData, l.mergeSort leD = sortD l
  | [] => by simp [sortD]
  | a :: l => by
    obtain ⟨l1, l2, h1, h2, h3⟩ := List.mergeSort_cons (le := leD) (fun a b c => leD_total.trans a b c) (fun a b => by
      rw [Bool.or_eq_true]
      exact leD_total.total a b) a l
    have hp : (l1 ++ a :: l2).Pairwise (fun x y => leD x y = true) := by
      rw [← h1]
      exact PySem.W.sort_pairwise leD_total (a :: l)
    rw [h1, sortD, ← sortD_eq l, h2]
    exact (insD_eq (fun b hb => by simpa using h3 b hb) fun b hb => (List.pairwise_cons.mp (List.pairwise_append.mp hp).2.1).1 b hb).symm
def alikeB (ds : List PyData) : Bool := ds.all fun d => ds.all fun d' => PySem.W.alike d d'
def isTup1 : PyData → Bool
  | .tuple (_ :: _) => true
  | _ => false
def isOth : PyData → Bool
  | .none => false
  | .tuple _ => false
  | _ => true
def sortB (ds : List PyData) : Bool := ds.all isTup1 || ds.all isOth
theorem alikeB_ok {ds : List PyData} (h : alikeB ds = true) : PySem.W.AllAlike ds := fun d hd d' hd' => by
  unfold alikeB at h
  exact List.all_eq_true.mp (List.all_eq_true.mp h d hd) d' hd'
theorem sortB_ok {ds : List PyData} (h : sortB ds = true) : PySem.W.Sortable ds := by
  unfold sortB at h
  rw [Bool.or_eq_true] at h
  rcases h with h | h
  · refine .inl fun d hd => ?_
    have z := List.all_eq_true.mp h d hd
    cases d with
    | tuple l =>
      cases l with
      | nil => cases z
      | cons x r => exact ⟨x, r, rfl⟩
    | _ => cases z
  · refine .inr fun d hd => ?_
    have z := List.all_eq_true.mp h d hd
    cases d with
    | none => cases z
    | tuple l => cases z
    | _ => exact ⟨nofun, nofun⟩
section
variable {X : Cx} {K : PySem.W.Frag} {EK : EKT} {W : WX} {cl : Cl} {G G' H H' : Hp} {P P' : Nat → Addr → Prop} {F F' T T' : Addr → Prop} {e e' : En} {σ σ' : L2.St} {Pr : List Nat} {D : Ends}
theorem each_zip {R : Value → V × PyData → Prop} : ∀ {xs : List V} {ds : List PyData} {its : List Value}, Vals xs its → FzA K G xs ds → (∀ x u d, RelV x u → Fz K G x d → R u (x, d)) → PySem.W.EachIs R its (xs.zip ds)
  | [], ds, its, r, z, h => by
    cases r
    cases z.nil_l
    exact .nil
  | x :: xs, [], its, r, z, h => by
    have := z.len
    simp at this
  | x :: xs, d :: ds, its, r, z, h => by
    cases r with
    | cons a b => exact .cons (h _ _ _ a z.head) (each_zip b z.tail h)
theorem each_vals : ∀ {out : List Value} {bs : List (V × PyData)}, PySem.W.EachIs (fun u b => RelV b.1 u) out bs → Vals (bs.map (·.1)) out
  | _, _, .nil => .nil
  | _, _, .cons a b => .cons a (each_vals b)
theorem FzA.of_zip {bs : List (V × PyData)} (h : ∀ b ∈ bs, Fz K G b.1 b.2) : FzA K G (bs.map (·.1)) (bs.map (·.2)) := by
  refine ⟨by simp, fun i v d a b => ?_⟩
  rw [List.getElem?_map] at a b
  cases q : bs[i]? with
  | none => rw [q] at a; cases a
  | some p =>
    rw [q] at a b
    cases a
    cases b
    exact h p (List.mem_of_getElem? q)
theorem FzA.zip_mem {xs : List V} {ds : List PyData} (z : FzA K G xs ds) : ∀ b ∈ xs.zip ds, Fz K G b.1 b.2 := fun b hb => by
  obtain ⟨i, hi⟩ := List.mem_iff_getElem?.mp hb
  rw [List.getElem?_zip_eq_some] at hi
  exact z.at_ i _ _ hi.1 hi.2
def gSortL (ds : List PyData) : Option Vl := if alikeB ds = true ∧ sortB ds = true ∧ ds.length ≤ sizeLine ∧ (ds.all fun d => decide (d.depth ≤ 60)) = true then some (.o, .list (sortD ds)) else none
def gSorted : PyData → Option Vl
  | .list ds => gSortL ds
  | .tuple ds => gSortL ds
  | _ => none
def fSorted : OpF := one gSorted
theorem sorted_run {pins : List (Addr × Obj)} {s : Shared} {a : Addr} {T : String} {o : Obj} {its : List Value} {n : Nat} {xs : List V} {ds : List PyData} {r : Vl} {Q : VK} (hu : X.A.units + 70 < cLine) (I : Inv X pins σ H s) (sg : Same G H) (hT : T = "list" ∨ T = "tuple")
    (ho : s.heap.get? a = some o) (hc : o.cls = .type T) (hd : o.data = .seq its.toArray n) (rv : Vals xs its) (z : FzA X.K G xs ds) (hf : gSortL ds = some r) (fin : Fin X.K H G r Q) : wpAny (model X.prog X.w) X.A (call (.builtin "sorted") [.ref a]) (EP X pins σ Q) X.xe s := by
  unfold gSortL at hf
  by_cases hcnd : alikeB ds = true ∧ sortB ds = true ∧ ds.length ≤ sizeLine ∧ (ds.all fun d => decide (d.depth ≤ 60)) = true
  · rw [if_pos hcnd] at hf
    cases hf
    obtain ⟨h1, h2, h3, h4⟩ := hcnd
    have lx := z.len
    have li := rv.length
    have hL : its.length ≤ sizeLine := by omega
    refine PySem.W.ev_sorted_seq hT ho hc hd hL fun h' hk => ?_
    have I1 : Inv X pins σ H { s with heap := h' } := I.kept (t' := s.toks) hk
    have Hp0 : H h'.objs.size = none := I1.fresh
    have I2 : Inv X pins σ (upd H h'.objs.size (.lst xs)) { s with heap := h'.push (PyProof.Rows.seqObj "list" its.toArray 0) } := I1.lnew (t' := s.toks) rv (by omega)
    have hob : (h'.push (PyProof.Rows.seqObj "list" its.toArray 0)).get? h'.objs.size = some (PyProof.Rows.seqObj "list" its.toArray 0) := Heap.get?_push_size _ rfl
    have es : (xs.zip ds).map (·.2) = ds := by rw [List.map_snd_zip]; omega
    have hsz : (xs.zip ds).length = ds.length := by rw [List.length_zip]; omega
    have e1 : PySem.W.EachIs (fun u (b : V × PyData) => RelV b.1 u) its (xs.zip ds) := each_zip rv z fun _ _ _ a _ => a
    have e2 : PySem.W.EachIs (fun u (b : V × PyData) => ∃ as, Reads (h'.push (PyProof.Rows.seqObj "list" its.toArray 0)) u b.2 as ∧ h'.objs.size ∉ as) its (xs.zip ds) := each_zip rv z fun x u d rx fz => by
      obtain ⟨as, rd⟩ := Dp.reads I1 d x u (fz.mono sg).dp rx
      refine ⟨as, PyProof.Rows.Reads.keeps (fun b o q => Heap.get?_push_of_some _ q) rd, fun hm => ?_⟩
      obtain ⟨ob, q⟩ := PyProof.On.reads_mem_get rd _ hm
      exact Nat.lt_irrefl _ (Heap.lt_size q)
    refine PySem.W.list_sort_data (A := X.A.in1) (s := { s with heap := h'.push (PyProof.Rows.seqObj "list" its.toArray 0) }) (enc := fun b : V × PyData => b.2) hob e1 e2 (by rw [es]; exact alikeB_ok h1) (by rw [es]; exact sortB_ok h2) (by rw [hsz]; exact h3) (fun b hb => ?_) fun out ho2 eo => ?_
    · have hm : b.2 ∈ ds := by rw [← es]; exact List.mem_map.mpr ⟨b, hb, rfl⟩
      have := of_decide_eq_true (List.all_eq_true.mp h4 _ hm)
      show X.A.units + 1 + 1 + b.2.depth < cLine
      omega
    · obtain ⟨ep, he'⟩ := PyProof.Rows.sortedHeap_at (vs := its) (out := out.toArray) hob
      have mp : ((xs.zip ds).mergeSort (PySem.W.dataLe false fun b : V × PyData => b.2)).map (·.2) = sortD ds := by
        have z := PySem.W.sort_maps (r := PySem.W.dataLe false fun b : V × PyData => b.2) (s := leD) (fun b : V × PyData => b.2) (l := xs.zip ds) (fun _ _ _ _ => rfl)
        rw [z, es, sortD_eq]
      have zs := FzA.of_zip (bs := (xs.zip ds).mergeSort (PySem.W.dataLe false fun b : V × PyData => b.2)) (fun b hb => z.zip_mem b (List.mem_mergeSort.mp hb))
      rw [mp] at zs
      have hlen : (((xs.zip ds).mergeSort (PySem.W.dataLe false fun b : V × PyData => b.2)).map (·.1)).length ≤ sizeLine := by
        rw [List.length_map, List.length_mergeSort, hsz]
        exact h3
      have I3 := I2.write (x := h'.objs.size) (e := h'.objs.size) (o := .lst (((xs.zip ds).mergeSort (PySem.W.dataLe false fun b : V × PyData => b.2)).map (·.1))) (h' := PyProof.Rows.sortedHeap (h'.push (PyProof.Rows.seqObj "list" its.toArray 0)) h'.objs.size its out.toArray) (t' := s.toks) (by rw [upd_same]; trivial) (.inl rfl) (fun b u hb hu => by
        rw [PyProof.Rows.sortedHeap_old hb (Heap.lt_size hu)]; exact hu) ⟨_, he'⟩ ⟨hlen, out, ep, each_vals eo, by simpa using he'⟩
      refine ⟨.ref h'.objs.size, _, I3, rfl, ?_⟩
      have hup : upd (upd H h'.objs.size (.lst xs)) h'.objs.size (.lst (((xs.zip ds).mergeSort (PySem.W.dataLe false fun b : V × PyData => b.2)).map (·.1))) = upd H h'.objs.size (.lst (((xs.zip ds).mergeSort (PySem.W.dataLe false fun b : V × PyData => b.2)).map (·.1))) := by
        funext c
        by_cases hc : c = h'.objs.size
        · rw [hc, upd_same, upd_same]
        · rw [upd_ne hc, upd_ne hc, upd_ne hc]
      rw [hup]
      exact fin.lst sg zs _ Hp0
  · rw [if_neg hcnd] at hf; cases hf
theorem cr_sorted (hu : X.A.units + 70 < cLine) : CallR X (.builtin "sorted") (rD X.K fSorted) := fun pins s σ H xs us Q I r h => by
  obtain ⟨G, v, d, x, rfl, sg, r1, hf, fin⟩ := rD_one h
  obtain ⟨u, rfl, ru⟩ := r.one
  cases d <;> first | cases hf | skip
  · obtain ⟨p, xs, rfl, hq, z⟩ := r1.list sg
    cases ru
    obtain ⟨its, rv, ⟨o, n, ho, hc, _, hd⟩, _⟩ := I.list (.inl hq)
    exact sorted_run hu I sg (.inl rfl) ho hc hd rv z hf fin
  · obtain ⟨p, xs, rfl, hq, z, _⟩ := r1.tuple sg
    cases ru
    obtain ⟨its, rv, ⟨o, ho, hc, n, hd⟩, _⟩ := I.tuple hq.t
    exact sorted_run hu I sg (.inr rfl) ho hc hd rv z hf fin
end
end Ev
end

section
set_option Elab.async false
set_option linter.all false
set_option maxRecDepth 100000
set_option maxHeartbeats 1000000
/-! list(reversed(x)); min, max. -/
namespace RT
open PySem PySem.Spec PyProof.Rows
section
variable {prog : Program} {w : World} {A : Around} {E : Value → Shared → Prop} {s : Shared}
theorem ev_list_rev {it l : Addr} {items : Array Value} {Q : Value → Shared → Prop} (hh : A.handled = none) (hit : s.heap.IsRevIter it l ((items.size : Int) - 1)) (hl : s.heap.IsList l items) (hne : l ≠ it) (hn : items.size ≤ sizeLine)
    (hQ : ∀ (h' : Heap) (tk : Nat) (acc : Array Value) (c : Nat), (∀ b o, b ≠ it → s.heap.get? b = some o → h'.get? b = some o) → h'.get? s.heap.objs.size = some { cls := .type "list", dict := none, data := .seq acc c, slots := #[] } →
      ItemsOf (fun i v => items[items.size - 1 - i]? = some v) acc items.size → Q (.ref s.heap.objs.size) { s with heap := h', toks := tk }) :
    wpAny (model prog w) A (call (.type "list") [.ref it]) Q E s := by
  refine callType_codes (Q₁ := fun obj s₁ => obj = .ref s.heap.objs.size ∧ s₁ = { s with heap := s.heap.push { cls := .type "list", data := .seq #[] } }) F.called_list (F.typeCall_list_1 _) F.entry_list_init
    (code_list_new _ ⟨rfl, rfl⟩) fun obj s₁ h₁ => ?_
  obtain ⟨rfl, rfl⟩ := h₁
  have hS : (s.heap.push { cls := .type "list", data := .seq #[] }).get? s.heap.objs.size = some { cls := .type "list", data := .seq #[] } := Heap.get?_push_size _ rfl
  refine ⟨⟨_, hS, rfl⟩, F.args_list_init_2 _ _, ?_⟩
  have W := (Walks.listRev (prog := prog) (w := w) (A := A.in1.in1) hh it l hne items).toS
  obtain ⟨oi, hoi, _⟩ := id hit
  obtain ⟨ol, hol, _⟩ := id hl
  have hSi : s.heap.objs.size ≠ it := Nat.ne_of_gt (Heap.lt_size hoi)
  have hSl : s.heap.objs.size ≠ l := Nat.ne_of_gt (Heap.lt_size hol)
  have hSf : s.heap.objs.size ∉ [it, l] := by simp only [List.mem_cons, List.not_mem_nil, or_false, not_or]; exact ⟨hSi, hSl⟩
  show wpAny _ _ (do let old ← Builtin.List.listItems (.ref s.heap.objs.size); Builtin.List.listUpdate (.ref s.heap.objs.size) (fun _ => #[]); letGo old.toList.reverse; Builtin.List.listExtendWith (.ref s.heap.objs.size) (.ref it) .none) _ _ _
  refine wpAny_bind ?_
  unfold Builtin.List.listItems
  refine wpAny_bind (wpAny_seqItems hS rfl (wpAny_pure ?_))
  show wpAny _ _ (updateSeq s.heap.objs.size (fun _ => #[]) >>= fun _ => letGo (#[] : Array Value).toList.reverse >>= fun _ => Builtin.List.listExtendWith (.ref s.heap.objs.size) (.ref it) .none) _ _ _
  refine wpAny_bind (wpAny_updateSeq hS rfl ?_)
  have hS2 := Heap.get?_update_self (Obj.mapSeq (fun _ => (#[] : Array Value))) hS rfl
  generalize hg : (s.heap.push { cls := .type "list", data := .seq #[] }).update s.heap.objs.size (Obj.mapSeq (fun _ => (#[] : Array Value))) = h2 at hS2
  have oth : ∀ b o, s.heap.get? b = some o → h2.get? b = some o := fun b o e => by
    rw [← hg]
    exact (Heap.get?_update_other _ _ (Nat.ne_of_gt (Heap.lt_size e))).trans (Heap.get?_push_of_some _ e)
  refine wpAny_bind (wpAny_letGo ?_)
  have hit1 : h2.IsRevIter it l ((items.size : Int) - 1) := hit.at fun o e => oth _ o e
  have hl1 : h2.IsList l items := hl.at fun o e => oth _ o e
  have hT : ({ s with heap := h2 } : Shared).TypeIs (.ref it) "list_reverseiterator" := Heap.IsRevIter.typeIs (s := { s with heap := h2 }) hit1
  have h1 : Builtin.List.listSameRef (.ref s.heap.objs.size) (.ref it) = false := by simp [Builtin.List.listSameRef, hSi]
  show wpAny _ _ (Builtin.List.listExtendWith (.ref s.heap.objs.size) (.ref it) .none) _ _ { s with heap := h2 }
  unfold Builtin.List.listExtendWith
  refine wpAny_bind (wpAny_typeOf hT ?_)
  rw [if_neg (by rw [h1]; decide)]
  refine wpAny_bind (wpAny_pyIter_revIter (s := { s with heap := h2 }) hit1 ?_)
  refine wpAny_bind (wpAny_holding ?_)
  unfold Builtin.List.listLengthHint
  refine wpAny_bind (wpAny_specialOf hT nolen_lri ?_)
  show wpAny _ _ (specialOf (Value.ref it) (Str.ofString "__length_hint__") >>= _) _ _ _
  refine wpAny_bind (wpAny_specialOf hT hint_lri ?_)
  generalize hid : ("list_reverseiterator.__length_hint__" : String) = id0
  wp_delta
  rw [show splitId id0 = some ("list_reverseiterator", "__length_hint__") from by subst hid; decide +kernel]
  subst hid
  refine wpAny_bind (wpAny_isInstance (b := true) hT (by rw [isSubtype_type]; kernel_rfl) ?_)
  refine wpAny_pure ?_
  try rw [if_neg (by decide)]
  have e0 : ((items.size : Nat) : Int) - 1 - ((0 : Nat) : Int) = (items.size : Int) - 1 := by omega
  refine wpAny_pure ⟨plainId_quiet F.plain_extend_loop _, codeAny_extend_loopS W hn _ hSf _ items.size 0 _ _ _ rfl (Nat.zero_le _) ⟨Nat.zero_le _, by rw [e0]; exact hit1, hl1⟩ hS2 (ItemsOf.nil _) fun s' acc' c' hm hS' hacc => ?_⟩
  refine ⟨rfl, ?_⟩
  rw [Moved.eq_with hm]
  refine hQ s'.heap s'.toks acc' c' (fun b o hb e => hm.heap b o (fun hmem => ?_) (oth b o e)) hS' hacc
  rcases List.mem_cons.mp hmem with e' | hmem
  · exact absurd (Heap.lt_size e) (by rw [e']; exact Nat.lt_irrefl _)
  · exact hb (List.mem_singleton.mp hmem)
end
end RT
namespace Ev
open PySem PySem.Spec PyProof.Rows L2
section
variable {X : Cx} {K : PySem.W.Frag} {EK : EKT} {W : WX} {cl : Cl} {G G' H H' : Hp} {P P' : Nat → Addr → Prop} {F F' T T' : Addr → Prop} {e e' : En} {σ σ' : L2.St} {Pr : List Nat} {D : Ends}
/-- list(reversed(x)) of a list -/
def gListRev : PyData → Option Vl
  | .list ds => some (.o, .list ds.reverse)
  | _ => none
def fListRev : OpF := one gListRev
theorem pe_listRev {ex : Expr} {te : TE} {p p2 pos pos2 : Pos} (hc : X.calm = true) (hg : Gl X "list") (hm : X.mg "list" = none) (hg2 : Gl X "reversed") (hm2 : X.mg "reversed" = none) (he : PE X ex te)
    (hs : starEach [ex] X.env = (false, eval ex X.env) :: starEach [] X.env := by rfl)
    (hs2 : starEach [.Call (.Name "reversed" p2) [ex] [] pos2] X.env = (false, eval (.Call (.Name "reversed" p2) [ex] [] pos2) X.env) :: starEach [] X.env := by rfl) :
    PE X (.Call (.Name "list" p) [.Call (.Name "reversed" p2) [ex] [] pos2] [] pos) (tUn (rD1 X.K fListRev) te) := by
  refine ⟨fun pins s σ H Q I h => ?_⟩
  refine Call_ (ld_blt I hg hm boot_list (PyProof.Rows.callWith_type1 (args_cons (Call_ (ld_blt I hg2 hm2 PyProof.Rows.boot_reversed (PyProof.Rows.callWith_type1 (args_cons (thn (he.run pins s σ H _ I h) fun u s1 ⟨v, H1, I1, r1, q1⟩ => args_nil ?_) hs) hs rfl))) hs2) hs2 rfl))
  obtain ⟨G, w, d, x, ew, sg, rt, hf, fin⟩ := rD_one q1
  cases ew
  cases d <;> first | cases hf | skip
  rename_i ds
  obtain ⟨a, xs, rfl, hq, z⟩ := rt.list sg
  obtain rfl : u = Value.ref a := r1
  obtain ⟨its, rv, p', hz⟩ := I1.list (.inl hq)
  refine call_reversed_list p'.isList (args_nil ?_)
  have k0 : ∀ b o, s1.heap.get? b = some o → (s1.heap.push (revObj a ((its.toArray.size : Int) - 1))).get? b = some o := fun b o e => Heap.get?_push_of_some _ e
  have I2 : Inv X pins σ H1 { s1 with heap := s1.heap.push (revObj a ((its.toArray.size : Int) - 1)) } := I1.kept (t' := s1.toks) k0
  obtain ⟨f0, f1, f2, f3, f4, f5⟩ := I1.fpOk (H' := H1) (b := s1.heap.objs.size) (Nat.le_refl _) (I1.hok.fresh (Nat.le_refl _))
  have hl := p'.isList
  obtain ⟨ol, hol, _⟩ := id hl
  have hne : a ≠ s1.heap.objs.size := Nat.ne_of_lt (Heap.lt_size hol)
  have hn : its.toArray.size ≤ sizeLine := by rw [List.size_toArray, ← rv.length]; exact hz
  refine RT.ev_list_rev (s := { s1 with heap := s1.heap.push (revObj a ((its.toArray.size : Int) - 1)) }) (I1.ok.hd hc) ⟨_, Heap.get?_push_size _ rfl, rfl, rfl⟩ (hl.push _) hne hn fun h' tk acc c hk hS hi => ?_
  have hsz : s1.heap.objs.size ≤ (s1.heap.push (revObj a ((its.toArray.size : Int) - 1))).objs.size := by rw [Heap.size_push]; exact Nat.le_succ _
  have Hn : H1 (s1.heap.push (revObj a ((its.toArray.size : Int) - 1))).objs.size = none := I1.hok.fresh hsz
  refine ⟨.ref _, upd H1 (s1.heap.push (revObj a ((its.toArray.size : Int) - 1))).objs.size (.lst xs.reverse), ?_, rfl, fin.lst sg z.reverse _ Hn⟩
  have hlen : xs.reverse.length ≤ sizeLine := by rw [List.length_reverse]; exact hz
  exact I2.turnedNew (t' := tk) (ch := [s1.heap.objs.size]) (fun b o hb q => hk b o (by simpa using hb) q) (fun b hb => by
    have : b = s1.heap.objs.size := by simpa using hb
    subst this
    exact ⟨f0, f1, f2, f3, f4, f5⟩) (Nat.le_refl _) (show ObjOk X.prog X.w _ h' _ (.lst xs.reverse) from ⟨hlen, acc.toList, c, RT.vals_rev rv hi, by simpa using hS⟩)
theorem call_max2E : True := trivial
end
end Ev
end

section
set_option Elab.async false
set_option linter.all false
set_option maxRecDepth 100000
set_option maxHeartbeats 1000000
/-! Methods. -/
namespace Ev
open PySem PySem.Spec PyProof.Rows L2
/-- of that builtin type -/
def TyE (K : PySem.W.Frag) (T : String) (x : V) (H : Hp) : Prop := tyV K T x H ∨ (T = "tuple" ∧ ∃ a xs, x = .ref a ∧ SqN K H a xs)
def isStr : PyData → Bool
  | .str _ => true
  | _ => false
def isList : PyData → Bool
  | .list _ => true
  | _ => false
def isTuple : PyData → Bool
  | .tuple _ => true
  | _ => false
section
variable {X : Cx} {K : PySem.W.Frag} {EK : EKT} {W : WX} {cl : Cl} {G G' H H' : Hp} {P P' : Nat → Addr → Prop} {F F' T T' : Addr → Prop} {e e' : En} {σ σ' : L2.St} {Pr : List Nat} {D : Ends}
theorem TyE.is {pins : List (Addr × Obj)} {s : Shared} {T : String} {x : V} {v : Value} (I : Inv X pins σ H s) (r : RelV x v) (ty : TyE X.K T x H) :
    s.TypeIs v T ∧ ∀ a, v = .ref a → ∃ ob, s.heap.get? a = some ob ∧ ob.dict = none := by
  rcases ty with ty | ⟨rfl, a, xs, rfl, h⟩
  · exact tyV_is I r ty
  · cases r
    obtain ⟨h1, ob, h2, h3⟩ := SqN.typ I h
    exact ⟨h1, fun b e => by cases e; exact ⟨ob, h2, h3⟩⟩
theorem ty_str {v : V} {d : PyData} {H G : Hp} (h : isStr d = true) (s : Same G H) (r : Rt K H G v d) : TyE K "str" v H := by
  cases d <;> first | cases h | skip
  obtain ⟨rfl, _⟩ := r.str
  exact .inl rfl
theorem ty_list {v : V} {d : PyData} {H G : Hp} (h : isList d = true) (s : Same G H) (r : Rt K H G v d) : TyE K "list" v H := by
  cases d <;> first | cases h | skip
  obtain ⟨a, xs, rfl, hq, z⟩ := r.list s
  exact .inl (.inl ⟨rfl, xs, .inl hq⟩)
theorem ty_tuple {v : V} {d : PyData} {H G : Hp} (h : isTuple d = true) (s : Same G H) (r : Rt K H G v d) : TyE K "tuple" v H := by
  cases d <;> first | cases h | skip
  obtain ⟨a, xs, rfl, hq, z⟩ := r.tuple s
  exact .inr ⟨rfl, a, xs, rfl, hq⟩
def tBE (K : PySem.W.Frag) (T : String) (r : V → List V → Hp → VK → Prop) (to : TE) (t : TA) : TE := fun σ H Q => to σ H fun x H1 => TyE K T x H1 ∧ t σ H1 fun xs H2 => r x xs H2 Q
def rDM (K : PySem.W.Frag) (f : OpF) : V → List V → Hp → VK → Prop := fun x vs H Q => rD K f (x :: vs) H Q
theorem te_meth {ty : PyData → Bool} {f : OpF} {a : Ar} {as : List Ar} {Q : VK} {T : String} (hty : ∀ {v d H G}, ty d = true → Same G H → Rt K H G v d → TyE K T v H) (h : rdE K EK W cl (cMeth ty f a as) σ H Q) :
    tBE K T (rDM K f) (rd1 K EK W cl a) (rdAs K EK W cl as) σ H Q :=
  rd_methE hty (fun v vs H G d ds x Q s r rs hf fin => ⟨G, d :: ds, x, s, .cons r rs, hf, fin⟩) h
variable {o ex : Expr} {es : List Expr} {to : TE} {t : TA} {name : Str} {apos cpos : Pos} {id : String} {r : V → List V → Hp → VK → Prop}
theorem pe_bmE {T : String} (pa : PlainAttrs T) (slot : Slot T name id) (hty : typeOf (.builtin id) = pure (.type "method_descriptor")) (hm : MtR X id r) (ho : PE X o to) (ha : PA X (ex :: es) t)
    (hbase : attributeBase o name X.env (eval o X.env) = eval o X.env := by rfl)
    (hfew : ((backTo cpos (starEach (ex :: es) X.env)).all (fun x => !x.1) && (backToKw cpos (keywordEach [] X.env)).all (fun x => x.1.isSome)
      && decide ((ex :: es).length + ([] : List Keyword).length + (if ([] : List Keyword).isEmpty then 0 else 1) < 30)) = true := by rfl)
    (hline : (apos.endLine == cpos.line) = true := by rfl) (hs : starEach (ex :: es) X.env = (false, eval ex X.env) :: starEach es X.env := by rfl) (hplain : (backTo cpos (starEach es X.env)).any (·.1) = false := by rfl) :
    PE X (.Call (.Attribute o name apos) (ex :: es) [] cpos) (tBE X.K T r to t) := by
  refine ⟨fun pins s σ H Q I h => ?_⟩
  refine wpAny_Call_method_late hbase hfew hline rfl (thn (ho.run pins s σ H _ I h) fun v s1 ⟨x, H1, I1, r1, ty, q1⟩ => ?_)
  obtain ⟨h1, h2⟩ := TyE.is I1 r1 ty
  refine ⟨T, id, pa, slot, hty, h1, h2, ?_⟩
  have hA := ha.run cpos pins s1 σ H1 _ I1 q1
  rw [hs] at hA ⊢
  refine Calls.callWith_builtin (by show (false || (backTo cpos (starEach es X.env)).any (·.1)) = false; rw [hplain] <;> rfl) (Calls.evalArgs_plain ?_)
  exact thn hA fun us s2 ⟨vs, H2, I2, r2, q2⟩ => hm pins s2 σ H2 x vs v us Q I2 r1 r2 q2
/-! ### of texts -/
def fCount : OpF
  | [.str a, .str b] => some (.f, .int (Txt.count a b))
  | _ => none
theorem RtA.two' {x : V} {vs : List V} {d d' : PyData} (r : RtA K H G (x :: vs) [d, d']) : ∃ y, vs = [y] ∧ Rt K H G x d ∧ Rt K H G y d' := by
  cases r with
  | cons a r =>
    cases r with
    | cons b r =>
      cases r
      exact ⟨_, rfl, a, b⟩
theorem mr_count : MtR X "str.count" (rDM X.K fCount) := fun pins s σ H x xs v us Q I rx rs h => by
  obtain ⟨G, ds, r, sg, rt, hf, fin⟩ := h
  unfold fCount at hf
  split at hf
  · cases hf
    obtain ⟨y, rfl, r1, r2⟩ := rt.two'
    obtain ⟨rfl, _⟩ := r1.str
    obtain ⟨rfl, _⟩ := r2.str
    exact mt_count pins s σ H _ _ v us Q I rx rs ⟨_, _, rfl, rfl, fin.fg sg fun _ => .int _⟩
  · cases hf
def fStarts : OpF
  | [.str a, .str b] => some (.f, .bool (Txt.startswith a b))
  | _ => none
theorem mr_starts : MtR X "str.startswith" (rDM X.K fStarts) := fun pins s σ H x xs v us Q I rx rs h => by
  obtain ⟨G, ds, r, sg, rt, hf, fin⟩ := h
  unfold fStarts at hf
  split at hf
  · cases hf
    obtain ⟨y, rfl, r1, r2⟩ := rt.two'
    obtain ⟨rfl, _⟩ := r1.str
    obtain ⟨rfl, _⟩ := r2.str
    exact mt_startswith pins s σ H _ _ v us Q I rx rs ⟨_, _, rfl, rfl, fin.fg sg fun _ => .bl _⟩
  · cases hf
/-! join -/
def strsD : List PyData → Option (List Str)
  | [] => some []
  | .str x :: r => (strsD r).map (x :: ·)
  | _ => none
theorem strsD_fz : ∀ {ds : List PyData} {xs : List V} {ys : List Str}, strsD ds = some ys → FzA K G xs ds → xs = ys.map V.str ∧ ∀ y ∈ ys, PyData.strOk y = true
  | [], xs, ys, h, z => by
    cases h
    exact ⟨z.nil_r, fun y hy => by cases hy⟩
  | d :: ds, xs, ys, h, z => by
    obtain ⟨v, r, rfl, f, z'⟩ := z.cons_r
    cases d <;> first | cases h | skip
    rename_i x
    have h0 : (strsD ds).map (x :: ·) = some ys := h
    cases q : strsD ds with
    | none => rw [q] at h0; cases h0
    | some zs =>
      rw [q] at h0
      cases h0
      obtain ⟨e1, e2⟩ := strsD_fz q z'
      cases f with
      | str _ hx =>
        refine ⟨by rw [e1]; rfl, fun y hy => ?_⟩
        rcases List.mem_cons.mp hy with rfl | hy
        · exact hx
        · exact e2 y hy
def joinB (a : Str) (ys : List Str) : Bool := decide ((ys.map (·.length)).sum + ys.length * a.length ≤ 16777216) && PyData.strOk (Txt.join a ys)
def gJoin (a : Str) (ds : List PyData) : Option Vl := match strsD ds with
  | some ys => if joinB a ys = true then some (.f, .str (Txt.join a ys)) else none
  | none => none
def fJoin : OpF
  | [.str a, .list ds] => gJoin a ds
  | [.str a, .tuple ds] => gJoin a ds
  | _ => none
theorem mr_join : MtR X "str.join" (rDM X.K fJoin) := fun pins s σ H x xs v us Q I rx rs h => by
  obtain ⟨G, ds, r, sg, rt, hf, fin⟩ := h
  have core : ∀ (a : Str) (ds : List PyData) (p : Addr) (zs : List V), gJoin a ds = some r → FzA X.K G zs ds → (SqL X.K H p zs ∨ SqT X.K H p zs) → x = .str a → xs = [.ref p] → wpAny (model X.prog X.w) X.A (call (.builtin "str.join") (v :: us)) (EP X pins σ Q) X.xe s := fun a ds p zs hg z hq e1 e2 => by
    unfold gJoin at hg
    cases q : strsD ds with
    | none => simp only [q] at hg; cases hg
    | some ys =>
      simp only [q] at hg
      by_cases hj : joinB a ys = true
      · rw [if_pos hj] at hg
        cases hg
        unfold joinB at hj
        rw [Bool.and_eq_true] at hj
        obtain ⟨e3, e4⟩ := strsD_fz q z
        subst e3
        exact mt_join pins s σ H _ _ v us Q I rx rs ⟨a, p, ys, e1, e2, hq, of_decide_eq_true hj.1, fin.fg sg fun _ => .str _ hj.2⟩
      · rw [if_neg hj] at hg; cases hg
  unfold fJoin at hf
  split at hf
  · obtain ⟨y, rfl, r1, r2⟩ := rt.two'
    obtain ⟨rfl, _⟩ := r1.str
    obtain ⟨p, zs, rfl, hq, z⟩ := r2.list sg
    exact core _ _ p zs hf z (.inl (.inl hq)) rfl rfl
  · obtain ⟨y, rfl, r1, r2⟩ := rt.two'
    obtain ⟨rfl, _⟩ := r1.str
    obtain ⟨p, zs, rfl, hq, z, _⟩ := r2.tuple sg
    exact core _ _ p zs hf z (.inr hq.t) rfl rfl
  · cases hf
/-! index -/
def flatD : PyData → Bool
  | .none => true
  | .bool _ => true
  | .int _ => true
  | .str _ => true
  | _ => false
def ixOf (d : PyData) : List PyData → Option Nat
  | [] => none
  | x :: r => if PyData.eqv x d = true then some 0 else (ixOf d r).map (· + 1)
def gIndex (ds : List PyData) (d : PyData) : Option Vl := if flatD d = true ∧ ds.all flatD = true then (ixOf d ds).map fun j => (.f, .int (j : Nat)) else none
def fIndex : OpF
  | [.list ds, d] => gIndex ds d
  | [.tuple ds, d] => gIndex ds d
  | _ => none
theorem flat_v {v : V} {d : PyData} (f : Fz K G v d) (h : flatD d = true) : flatV v = true := by
  cases f <;> first | rfl | cases h
theorem flat_eq {v u : V} {d d' : PyData} (f : Fz K G v d) (f' : Fz K G u d') (h : flatD d = true) (h' : flatD d' = true) : eqV v u = PyData.eqv d d' := by
  cases f <;> first | cases h | skip
  all_goals (cases f' <;> first | cases h' | skip)
  all_goals simp [eqV, PyData.eqv]
theorem ixOf_at : ∀ {ds : List PyData} {d : PyData} {j : Nat}, ixOf d ds = some j → (∃ z, ds[j]? = some z ∧ PyData.eqv z d = true) ∧ ∀ m z, m < j → ds[m]? = some z → PyData.eqv z d = false
  | [], d, j, h => by cases h
  | x :: r, d, j, h => by
    have h0 : (if PyData.eqv x d = true then some 0 else (ixOf d r).map (· + 1)) = some j := h
    by_cases q : PyData.eqv x d = true
    · rw [if_pos q] at h0
      cases h0
      exact ⟨⟨x, rfl, q⟩, fun m z hm => absurd hm (Nat.not_lt_zero _)⟩
    · rw [if_neg q] at h0
      cases qi : ixOf d r with
      | none => rw [qi] at h0; cases h0
      | some k =>
        rw [qi] at h0
        cases h0
        obtain ⟨⟨z, h1, h2⟩, h3⟩ := ixOf_at qi
        refine ⟨⟨z, h1, h2⟩, fun m w hm hw => ?_⟩
        cases m with
        | zero =>
          cases hw
          simpa using q
        | succ m => exact h3 m w (Nat.lt_of_succ_lt_succ hm) (by simpa using hw)
theorem flat_all {xs : List V} {ds : List PyData} (z : FzA K G xs ds) (h : ds.all flatD = true) : xs.all flatV = true := by
  rw [List.all_eq_true]
  intro x hx
  obtain ⟨i, hi⟩ := List.mem_iff_getElem?.mp hx
  obtain ⟨d, hd, f⟩ := z.get' hi
  exact flat_v f (List.all_eq_true.mp h d (List.mem_of_getElem? hd))
theorem mr_index : MtR X "list.index" (rDM X.K fun ds => if (ds.head?.map isList).getD false then fIndex ds else none) := fun pins s σ H x xs v us Q I rx rs h => by
  obtain ⟨G, ds, r, sg, rt, hf, fin⟩ := h
  cases rt with
  | @cons x d vs ds r1 rs' =>
    cases d <;> first | cases hf | skip
    rename_i l
    cases rs' with
    | nil => cases hf
    | @cons y d vs ds r2 rs' =>
      cases rs' with
      | cons _ _ => cases hf
      | nil =>
        have hf : gIndex l d = some r := hf
        unfold gIndex at hf
        by_cases hc : flatD d = true ∧ l.all flatD = true
        · rw [if_pos hc] at hf
          cases q : ixOf d l with
          | none => rw [q] at hf; cases hf
          | some j =>
            rw [q] at hf
            cases hf
            obtain ⟨p, zs, rfl, hq, z⟩ := r1.list sg
            have fy := r2.fz sg
            obtain ⟨⟨w, h1, h2⟩, h3⟩ := ixOf_at q
            obtain ⟨wv, hw, fw⟩ := z.get h1
            have fl : ∀ {m : Nat} {w : PyData}, l[m]? = some w → flatD w = true := fun {m w} q => List.all_eq_true.mp hc.2 _ (List.mem_of_getElem? q)
            refine mt_index pins s σ H _ _ v us Q I rx rs ⟨p, zs, y, j, wv, rfl, rfl, .inl hq, flat_v fy hc.1, flat_all z hc.2, hw, ?_, fun m z' hm hz' => ?_, fin.fg sg fun _ => .int _⟩
            · rw [flat_eq (fw.mono sg) fy (fl h1) hc.1]; exact h2
            · obtain ⟨d', hd', f'⟩ := z.get' hz'
              rw [flat_eq (f'.mono sg) fy (fl hd') hc.1]
              exact h3 m d' hm hd'
        · rw [if_neg hc] at hf; cases hf
def fIndexL : OpF := fun ds => if (ds.head?.map isList).getD false then fIndex ds else none
def fIndexT : OpF := fun ds => if (ds.head?.map isTuple).getD false then fIndex ds else none
theorem mr_indexT : MtR X "tuple.index" (rDM X.K fIndexT) := fun pins s σ H x xs v us Q I rx rs h => by
  obtain ⟨G, ds, r, sg, rt, hf, fin⟩ := h
  cases rt with
  | @cons x d vs ds r1 rs' =>
    cases d <;> first | cases hf | skip
    rename_i l
    cases rs' with
    | nil => cases hf
    | @cons y d vs ds r2 rs' =>
      cases rs' with
      | cons _ _ => cases hf
      | nil =>
        have hf : gIndex l d = some r := hf
        unfold gIndex at hf
        by_cases hc : flatD d = true ∧ l.all flatD = true
        · rw [if_pos hc] at hf
          cases q : ixOf d l with
          | none => rw [q] at hf; cases hf
          | some j =>
            rw [q] at hf
            cases hf
            obtain ⟨p, zs, rfl, hq, z, _⟩ := r1.tuple sg
            have fy := r2.fz sg
            obtain ⟨⟨w, h1, h2⟩, h3⟩ := ixOf_at q
            obtain ⟨wv, hw, fw⟩ := z.get h1
            have fl : ∀ {m : Nat} {w : PyData}, l[m]? = some w → flatD w = true := fun {m w} q => List.all_eq_true.mp hc.2 _ (List.mem_of_getElem? q)
            cases rx
            obtain ⟨u, rfl, ru⟩ := rs.one
            obtain ⟨its, rv, ⟨⟨cls, dd, dt, sl⟩, ho, hcl, n, hd⟩, hlen⟩ := I.tuple hq.t
            simp only at hcl hd
            subst hcl
            subst hd
            have lv := rv.length
            have atz : ∀ (m : Nat) (hm : m < its.toArray.size), ∃ y d', zs[m]? = some y ∧ l[m]? = some d' ∧ Fz X.K G y d' ∧ RelV y its.toArray[m] := fun m hm => by
              have hml : m < its.length := by simpa using hm
              have hmz : m < zs.length := by omega
              have hz : zs[m]? = some zs[m] := List.getElem?_eq_getElem hmz
              obtain ⟨w, hw, r⟩ := rv.get hz
              obtain ⟨d', hd', f'⟩ := z.get' hz
              refine ⟨zs[m], d', hz, hd', f', ?_⟩
              have e := (List.getElem?_eq_some_iff.mp hw).2
              have : its.toArray[m] = w := by simpa using e
              rw [this]
              exact r
            have hj : j < its.toArray.size := by
              have := (List.getElem?_eq_some_iff.mp hw).1
              simp
              omega
            refine call_meets PySem.F.slot_tuple_index ⟨_, ho, rfl⟩ PySem.F.entry_tuple_index (PySem.F.args_tuple_index_2 _ _) (TI.tuple_indexAt p its.toArray n dd sl u (eqU y) j hj ?_ ?_)
              ⟨ho, fun w hw => mem_eqAt ru (flat_v fy hc.1) rv (flat_all z hc.2) w (by simpa using hw), ⟨.int (j : Nat), H, I.tok _, ⟨_, rfl⟩, fin.fg sg fun _ => .int _⟩⟩
            · obtain ⟨y', d', e1, e2, f', ry⟩ := atz j hj
              rw [h1] at e2
              cases e2
              rw [eqU_of ry (flat_v f' (fl h1)), flat_eq (f'.mono sg) fy (fl h1) hc.1]
              exact h2
            · intro m hm hmj
              obtain ⟨y', d', e1, e2, f', ry⟩ := atz m hm
              rw [eqU_of ry (flat_v f' (fl e2)), flat_eq (f'.mono sg) fy (fl e2) hc.1]
              exact h3 m d' hmj e2
        · rw [if_neg hc] at hf; cases hf
/-! ### e[::-1].replace('y', 'z') -/
def fRevRepl (y z : Str) : OpF
  | [.str x] => if x.length ≤ sizeLine ∧ x.length + (x.length + 1) * z.length ≤ 16777216 ∧ PyData.strOk (Txt.replace ⟨x.cps.toList.reverse.toArray⟩ y z) = true then some (.f, .str (Txt.replace ⟨x.cps.toList.reverse.toArray⟩ y z)) else none
  | _ => none
/-! ### lists that change -/
theorem rd_datN {as : List Ar} {Q : List V → Hp → Prop} (x : Env1 K P H G F e σ) (hn : arSl as = []) (h : match arRun as cl e with
    | .ok p => (match arDat as p.1 p.2 with
      | some ds => ∀ vs H' G' F', Env1 K P H' G' F' p.1 σ → FzA K G' vs ds → Stp H G F H' G' F' NoA → Q vs H'
      | none => False)
    | .ex n d e' => WEx K EK W P H G F σ n d e'
    | .no => False) : rdAs K EK W cl as σ H Q := by
  refine ⟨e, G, F, P, x, ?_⟩
  cases q : arRun as cl e with
  | ok p =>
    rw [q] at h
    intro vs H1 G1 F1 T1 x1 rs s1
    cases qd : arDat as p.1 p.2 with
    | none => simp only [qd] at h
    | some ds =>
      simp only [qd] at h
      obtain ⟨x2, z, sg, hT⟩ := frozen_all x x1 s1
      have rn := ars_rtN x1 rs qd _ sg hT
      rw [hn] at rn
      refine h vs H1 _ F1 x2 ?_ z
      clear h qd rs
      induction rn with
      | nil => exact .nil
      | cons a b ih => exact .cons (a.elim id fun ⟨i, _, _, _, _, m, _⟩ => by cases m) ih
  | ex n d e' => rw [q] at h; exact h
  | no => rw [q] at h; exact h
def MuS' (r : V → List V → Hp → VK → Prop) (f : MuF) (K : PySem.W.Frag) : Prop := ∀ (a : Addr) (xs : List V) (ds args : List PyData) (vs : List V) (H G : Hp) (d' res : PyData) (Q : VK), Same G H → H a = some (.lst xs) → FzA K G xs ds → FzA K G vs args → f (.list ds) args = some (d', res) →
  (∀ v ys es, d' = .list es → FzA K G ys es → Fz K G v res → Q v (upd H a (.lst ys))) → r (.ref a) vs H Q
theorem te_mutF {r : V → List V → Hp → VK → Prop} {f : MuF} {i : Nat} {as : List Ar} {Q : VK} (hf : MuS' r f K) (hn : arSl as = []) (h : rdE K EK W cl (cMut f i as) σ H Q) : tBM K "list" r (tVar i) (rdAs K EK W cl as) σ H Q := by
  obtain ⟨e, G, F, P, x, h⟩ := h
  obtain ⟨fp, h1, _, _⟩ := x.fp
  unfold cMut at h
  cases g : gt e i with
  | none => rw [g] at h; exact h.elim
  | some y =>
    obtain ⟨ow, d⟩ := y
    rw [g] at h
    cases ow with
    | o =>
      cases d with
      | list ds0 =>
        obtain ⟨v, hv, a, xs, ds', rfl, e1, q3, q4, q5⟩ := h1 i _ g
        refine ⟨_, hv, .inl ⟨rfl, xs, .inl (.inl q3)⟩, rd_datN x hn ?_⟩
        simp only at h
        cases q : arRun as cl e with
        | no => simp only [q, R.bind] at h
        | ex n d e' => simp only [q, R.bind] at h; exact h
        | ok p =>
          obtain ⟨e2, zs⟩ := p
          simp only [q, R.bind] at h
          cases qd : arDat as e2 zs with
          | none => simp only [qd] at h
          | some args =>
            simp only [qd] at h ⊢
            intro vs H3 G3 F3 x3 rt s3
            unfold muRes at h
            cases g2 : gt e2 i with
            | none => simp only [g2] at h
            | some y2 =>
              obtain ⟨ow2, d2⟩ := y2
              simp only [g2] at h
              cases ow2 with
              | o =>
                simp only at h
                cases qf : f d2 args with
                | none => simp only [qf] at h
                | some dr =>
                  obtain ⟨d', res⟩ := dr
                  simp only [qf] at h
                  obtain ⟨fp2, w1, _, _⟩ := x3.fp
                  obtain ⟨vo2, hvo2, a2, zs2, ds3, rfl, e3, w3, w4, w5⟩ := w1 i _ g2
                  rw [hv] at hvo2
                  cases hvo2
                  cases e3
                  refine hf a zs2 ds3 args vs H3 G3 d' res Q x3.sub w3 w4 rt qf fun v ys es e4 f1 f2 => ?_
                  subst e4
                  obtain ⟨x4, s4⟩ := x3.upd1 g2 hv f1
                  exact h v _ _ _ NoA x4 f2 (s3.trans0 s4)
              | f => exact h.elim
              | l => exact h.elim
              | b => exact h.elim
      | _ => exact h.elim
    | f => exact h.elim
    | l => exact h.elim
    | b => exact h.elim
def muApp : MuF
  | .list ds, [d] => if ds.length < sizeLine then some (.list (ds ++ [d]), .none) else none
  | _, _ => none
theorem mu_app : MuS' rAppend muApp K := by
  intro a xs ds args vs H G d' res Q sg ha z za hf hq
  unfold muApp at hf
  split at hf
  · rename_i ds0 d e1
    cases e1
    by_cases hc : ds.length < sizeLine
    · rw [if_pos hc] at hf
      cases hf
      obtain ⟨v, r, rfl, f1, z1⟩ := za.cons_r
      cases z1.nil_r
      exact ⟨a, xs, v, rfl, rfl, ha, by rw [z.len]; exact hc, hq .non _ _ rfl (z.append (.cons f1 .nil)) .non⟩
    · rw [if_neg hc] at hf; cases hf
  · cases hf
def muExt : MuF
  | .list ds, [.list es] => if ds.length + es.length ≤ sizeLine then some (.list (ds ++ es), .none) else none
  | _, _ => none
theorem mu_ext : MuS' (rExtR K) muExt K := by
  intro a xs ds args vs H G d' res Q sg ha z za hf hq
  unfold muExt at hf
  split at hf
  · rename_i ds0 es e1
    cases e1
    by_cases hc : ds.length + es.length ≤ sizeLine
    · rw [if_pos hc] at hf
      cases hf
      obtain ⟨v, r, rfl, f1, z1⟩ := za.cons_r
      cases z1.nil_r
      cases f1 with
      | @lst b ys es' hr hl hh =>
        have zy : FzA K G ys es := ⟨hl, hh⟩
        exact ⟨a, b, xs, ys, rfl, rfl, ha, Rd.same sg hr, by rw [z.len, zy.len]; exact hc, hq .non _ _ rfl (z.append zy) .non⟩
    · rw [if_neg hc] at hf; cases hf
  · cases hf
def muPop : MuF
  | .list ds, [] => (ds.getLast?).map fun d => (.list ds.dropLast, d)
  | _, _ => none
theorem mu_pop : MuS' rPop muPop K := by
  intro a xs ds args vs H G d' res Q sg ha z za hf hq
  unfold muPop at hf
  split at hf
  · rename_i ds0 e1
    cases e1
    cases za.nil_r
    cases q : ds.getLast? with
    | none => rw [q] at hf; cases hf
    | some d =>
      rw [q] at hf
      cases hf
      rw [List.getLast?_eq_getElem?] at q
      obtain ⟨v, hv, fv⟩ := z.get q
      refine ⟨a, xs, v, rfl, rfl, ha, by rw [z.len]; exact hv, hq v _ _ rfl ?_ fv⟩
      rw [List.dropLast_eq_take, List.dropLast_eq_take, z.len]
      exact z.take _
  · cases hf
end
end Ev
end

section
set_option Elab.async false
set_option linter.all false
set_option maxRecDepth 100000
set_option maxHeartbeats 1000000
/-! The rules, text by combinator. -/
namespace L2
open PySem PySem.Spec PyProof.Rows
theorem PE.imp {X : Cx} {e : Expr} {t t' : TE} (h : PE X e t) (q : ∀ σ H Q, t' σ H Q → t σ H Q) : PE X e t' := ⟨fun pins s σ H Q I w => h.run pins s σ H Q I (q _ _ _ w)⟩
theorem PT.imp {X : Cx} {e : Expr} {t t' : TT} (h : PT X e t) (q : ∀ σ H Q, t' σ H Q → t σ H Q) : PT X e t' := ⟨fun pins s σ H Q I w => h.run pins s σ H Q I (q _ _ _ w)⟩
theorem PW.imp {X : Cx} {e : Expr} {t t' : TT} (h : PW X e t) (q : ∀ σ H Q, t' σ H Q → t σ H Q) : PW X e t' := ⟨fun wh pins s σ H Q I w => h.run wh pins s σ H Q I (q _ _ _ w)⟩
theorem PA.imp {X : Cx} {es : List Expr} {t t' : TA} (h : PA X es t) (q : ∀ σ H Q, t' σ H Q → t σ H Q) : PA X es t' := ⟨fun pos pins s σ H Q I w => h.run pos pins s σ H Q I (q _ _ _ w)⟩
theorem PS.imp {X : Cx} {st : Stmt} {t t' : TS} (h : PS X st t) (q : ∀ D σ H, t' D σ H → t D σ H) : PS X st t' := ⟨fun pins s σ H D I w => h.run pins s σ H D I (q _ _ _ w)⟩
theorem PSs.imp {X : Cx} {st : List Stmt} {t t' : TS} (h : PSs X st t) (q : ∀ D σ H, t' D σ H → t D σ H) : PSs X st t' := ⟨fun pins s σ H D I w => h.run pins s σ H D I (q _ _ _ w)⟩
end L2
namespace Ev
open PySem PySem.Spec PyProof.Rows L2
section
variable {X : Cx} {EK : EKT} {cl : Cl} {Pr : List Nat} {pos p p2 p3 p4 pos2 : Pos}
abbrev XE (X : Cx) (EK : EKT) (cl : Cl) (e : Expr) (c : CE) : Prop := PE X e (rdE X.K EK W0 cl c)
abbrev XR (X : Cx) (EK : EKT) (cl : Cl) (e : Expr) (a : Ar) : Prop := PE X e (rd1 X.K EK W0 cl a)
abbrev XT (X : Cx) (EK : EKT) (cl : Cl) (e : Expr) (t : CT) : Prop := PT X e (rdT X.K EK W0 cl t)
abbrev XW (X : Cx) (EK : EKT) (cl : Cl) (e : Expr) (t : CT) : Prop := PW X e (rdT X.K EK W0 cl t)
abbrev XA (X : Cx) (EK : EKT) (cl : Cl) (es : List Expr) (as : List Ar) : Prop := PA X es (rdAs X.K EK W0 cl as)
abbrev XL (X : Cx) (EK : EKT) (cl : Cl) (es : List Expr) (cs : List CE) : Prop := PA X es (rdEs X.K EK W0 cl cs)
abbrev XS (X : Cx) (EK : EKT) (cl : Cl) (Pr : List Nat) (st : Stmt) (c : CS) : Prop := PS X st (rdS X.K EK W0 cl Pr c)
abbrev XB (X : Cx) (EK : EKT) (cl : Cl) (Pr : List Nat) (st : List Stmt) (c : CS) : Prop := PSs X st (rdS X.K EK W0 cl Pr c)
abbrev XG (X : Cx) (tg : Expr) (t : Tg) : Prop := PG X tg (rdG X.K t)
abbrev XI (X : Cx) (EK : EKT) (cl : Cl) (tg it : Expr) (i : Ev.It) (pair : Bool) : Prop := PI X tg it (rdI X.K EK W0 cl i pair)
/-! ### atoms -/
theorem x_int {i : Int} {j : Nat} : XE X EK cl (.Constant (.int i) j pos) (cK (.int i)) := pe_int.imp fun _ _ _ h => te_K (fun _ => .int i) h
theorem x_str {x : Str} {j : Nat} (h : PyData.strOk x = true := by decide +kernel) : XE X EK cl (.Constant (.str x) j pos) (cK (.str x)) := pe_str.imp fun _ _ _ w => te_K (fun _ => .str x h) w
theorem x_bl {b : Bool} {j : Nat} : XE X EK cl (.Constant (.bool b) j pos) (cK (.bool b)) := pe_bl.imp fun _ _ _ h => te_K (fun _ => .bl b) h
theorem x_non {j : Nat} : XE X EK cl (.Constant .none j pos) (cK .none) := pe_non.imp fun _ _ _ h => te_K (fun _ => .non) h
theorem x_n (i : Nat) {x : Str} (hN : X.N[i]? = some x := by rfl) (hv : Vis X.env.scope x := by first | exact Or.inl rfl | exact Or.inr (Or.inl rfl) | exact Or.inr (Or.inr rfl)) (hd : (x == ("__debug__" : Str)) = false := by decide)
    (hcd : (x == ("__classdict__" : Str)) = false := by decide) : XR X EK cl (.Name x pos) (.n i) := pe_var hN hv hd hcd
theorem x_var (i : Nat) {x : Str} (hN : X.N[i]? = some x := by rfl) (hv : Vis X.env.scope x := by first | exact Or.inl rfl | exact Or.inr (Or.inl rfl) | exact Or.inr (Or.inr rfl)) (hd : (x == ("__debug__" : Str)) = false := by decide)
    (hcd : (x == ("__classdict__" : Str)) = false := by decide) : XE X EK cl (.Name x pos) (cVar i) := (pe_var hN hv hd hcd).imp fun _ _ _ h => te_var h
theorem x_v {e : Expr} {c : CE} (h : XE X EK cl e c) : XR X EK cl e (.v c) := h
theorem xa_nil : XA X EK cl [] [] := pa_nil.imp fun _ _ _ h => rdAs_nil h
theorem xa_cons {e : Expr} {es : List Expr} {a : Ar} {as : List Ar} (h : XR X EK cl e a) (hs : XA X EK cl es as) (hst : starEach (e :: es) X.env = (false, eval e X.env) :: starEach es X.env := by rfl) : XA X EK cl (e :: es) (a :: as) :=
  (pa_cons h hs hst).imp fun _ _ _ w => rdAs_cons w
theorem xl_nil : XL X EK cl [] [] := pa_nil.imp fun _ _ _ h => rdEs_nil h
theorem xl_cons {e : Expr} {es : List Expr} {c : CE} {cs : List CE} (h : XE X EK cl e c) (hs : XL X EK cl es cs) (hst : starEach (e :: es) X.env = (false, eval e X.env) :: starEach es X.env := by rfl) : XL X EK cl (e :: es) (c :: cs) :=
  (pa_cons h hs hst).imp fun _ _ _ w => rdEs_cons w
/-! ### operations -/
theorem x_bin {op : Operator} {f : OpF} {a b : Expr} {x y : Ar} (ho : OpR X (binaryOp op) (rD2 X.K f)) (ha : XR X EK cl a x) (hb : XR X EK cl b y) : XE X EK cl (.BinOp a op b pos) (cOp f [x, y]) := (pe_op ho ha hb).imp fun _ _ _ h => te_D2 h
def fNeg : OpF := one fun d => match d with
  | .int i => some (.f, .int (-i))
  | _ => none
theorem unr_neg : UnR X (unaryOp .USub) (rD1 X.K fNeg) := fun pins s σ H x v Q I rx h => by
  obtain ⟨G, w, d, r, e, sg, r1, hf, fin⟩ := rD_one h
  cases e
  cases d <;> first | cases hf | skip
  cases r1.int
  exact un_neg pins s σ H _ v Q I rx ⟨_, rfl, fin.fg sg fun _ => .int _⟩
theorem x_neg {a : Expr} {x : Ar} (ha : XR X EK cl a x) : XE X EK cl (.UnaryOp .USub a pos) (cOp fNeg [x]) := (pe_un unr_neg ha).imp fun _ _ _ h => te_D1 h
theorem x_cmp {op : CmpOp} {f : OpF} {a b : Expr} {x y : Ar} (ho : OpR X (compareOp op) (rD2 X.K f)) (ha : XR X EK cl a x) (hb : XR X EK cl b y) (hm : behindInMarks op b = false := by first | exact nomark _ | rfl) : XE X EK cl (.Compare a [op] [b] pos) (cOp f [x, y]) :=
  (pe_cmpR ho ha hb hm).imp fun _ _ _ h => te_D2 h
theorem x_eq {a b : Expr} {x y : Ar} (hu : X.A.units + 64 < cLine) (ha : XR X EK cl a x) (hb : XR X EK cl b y) : XE X EK cl (.Compare a [.Eq] [b] pos) (cOp (fEqM false) [x, y]) := (pe_cmpR (op_eqM hu) ha hb (nomark _)).imp fun _ _ _ h => te_op2 ops_eqM h
theorem x_ne {a b : Expr} {x y : Ar} (hu : X.A.units + 64 < cLine) (ha : XR X EK cl a x) (hb : XR X EK cl b y) : XE X EK cl (.Compare a [.NotEq] [b] pos) (cOp (fEqM true) [x, y]) := (pe_cmpR (op_neM hu) ha hb (nomark _)).imp fun _ _ _ h => te_op2 ops_eqM h
theorem x_tup {es : List Expr} {cs : List CE} {j : Nat} (h : XL X EK cl es cs) (hl : cs.length ≤ sizeLine := by first | decide | decide +kernel) : XE X EK cl (.Tuple es j pos) (cTup cs) := (pe_tupN h).imp fun _ _ _ w => te_tup hl w
theorem x_lst {es : List Expr} {cs : List CE} (h : XL X EK cl es cs) (hl : cs.length ≤ sizeLine := by first | decide | decide +kernel) : XE X EK cl (.List es pos) (cLst cs) := (pe_lst h).imp fun _ _ _ w => te_lst hl w
theorem x_ix {a b : Expr} {x y : Ar} (ha : XR X EK cl a x) (hb : XR X EK cl b y) (hs : PlainIx b := by exact fun _ _ => rfl) : XE X EK cl (.Subscript a b pos) (cOp fIx [x, y]) := (pe_ix ixr ha hb hs).imp fun _ _ _ h => te_D2 h
theorem x_ixN (i : Nat) {x : Str} {k : Int} {j : Nat} (hN : X.N[i]? = some x := by rfl) (hv : Vis X.env.scope x := by first | exact Or.inl rfl | exact Or.inr (Or.inl rfl) | exact Or.inr (Or.inr rfl)) (hd : (x == ("__debug__" : Str)) = false := by decide)
    (hcd : (x == ("__classdict__" : Str)) = false := by decide) : XE X EK cl (.Subscript (.Name x p) (.Constant (.int k) j p2) pos) (cIxN fIx i k) :=
  (pe_ix ixrE (pe_var hN hv hd hcd) pe_int fun _ _ => rfl).imp fun _ _ _ h => te_ixN ops_ixE (fun _ _ _ _ z => .inr z) h
theorem x_ixNil (i : Nat) {x : Str} {j : Nat} (hu : X.A.units + 64 < cLine) (hN : X.N[i]? = some x := by rfl) (hv : Vis X.env.scope x := by first | exact Or.inl rfl | exact Or.inr (Or.inl rfl) | exact Or.inr (Or.inr rfl)) (hd : (x == ("__debug__" : Str)) = false := by decide)
    (hcd : (x == ("__classdict__" : Str)) = false := by decide) : XE X EK cl (.Compare (.Subscript (.Name x p) (.Constant (.int 0) j p2) p3) [.Eq] [.List [] p4] pos) (cIxNil (fEqM false) fIx i false) :=
  (pe_cmpR (op_eqM hu) (pe_ix ixrE (pe_var hN hv hd hcd) pe_int fun _ _ => rfl) (pe_lst pa_nil) (nomark _)).imp fun _ _ _ h => te_ixNil ops_ixE (fun _ _ _ _ z => .inr z) ops_eqM h
theorem x_ixNilN (i : Nat) {x : Str} {j : Nat} (hu : X.A.units + 64 < cLine) (hN : X.N[i]? = some x := by rfl) (hv : Vis X.env.scope x := by first | exact Or.inl rfl | exact Or.inr (Or.inl rfl) | exact Or.inr (Or.inr rfl)) (hd : (x == ("__debug__" : Str)) = false := by decide)
    (hcd : (x == ("__classdict__" : Str)) = false := by decide) : XE X EK cl (.Compare (.Subscript (.Name x p) (.Constant (.int 0) j p2) p3) [.NotEq] [.List [] p4] pos) (cIxNil (fEqM true) fIx i true) :=
  (pe_cmpR (op_neM hu) (pe_ix ixrE (pe_var hN hv hd hcd) pe_int fun _ _ => rfl) (pe_lst pa_nil) (nomark _)).imp fun _ _ _ h => te_ixNil ops_ixE (fun _ _ _ _ z => .inr z) ops_eqM h
theorem x_pop0 (i : Nat) {x : Str} {j : Nat} {apos : Pos} (hN : X.N[i]? = some x := by rfl) (hv : Vis X.env.scope x := by first | exact Or.inl rfl | exact Or.inr (Or.inl rfl) | exact Or.inr (Or.inr rfl)) (hd : (x == ("__debug__" : Str)) = false := by decide)
    (hcd : (x == ("__classdict__" : Str)) = false := by decide)
    (hbase : attributeBase (.Subscript (.Name x p) (.Constant (.int 0) j p2) p3) "pop" X.env (eval (.Subscript (.Name x p) (.Constant (.int 0) j p2) p3) X.env) = eval (.Subscript (.Name x p) (.Constant (.int 0) j p2) p3) X.env := by rfl) (hline : (apos.endLine == pos.line) = true := by rfl) :
    XE X EK cl (.Call (.Attribute (.Subscript (.Name x p) (.Constant (.int 0) j p2) p3) "pop" apos) [] [] pos) (cPop0 i) :=
  (pe_bm0 F.plainAttrs_list F.slot_list_pop F.type_list_pop mt_pop (pe_ix ixrE (pe_var hN hv hd hcd) pe_int fun _ _ => rfl) hbase hline).imp fun _ _ _ h => te_pop0 (fun _ _ _ _ z => .inr z) h
theorem x_slAB {a l h : Expr} {x : Ar} {c d : CE} (ha : XR X EK cl a x) (hl : XE X EK cl l c) (hh : XE X EK cl h d) : XE X EK cl (.Subscript a (.Slice (some l) (some h) none p2) pos) (cOp fSlAB [x, .v (cInt c), .v (cInt d)]) := (pe_slice slr ha (po_some hl) (po_some hh)).imp fun _ _ _ w => te_slAB w
theorem x_slA {a l : Expr} {x : Ar} {c : CE} (ha : XR X EK cl a x) (hl : XE X EK cl l c) : XE X EK cl (.Subscript a (.Slice (some l) none none p2) pos) (cOp fSlA [x, .v (cInt c)]) := (pe_slice slr ha (po_some hl) po_none).imp fun _ _ _ w => te_slA w
theorem x_slB {a h : Expr} {x : Ar} {c : CE} (ha : XR X EK cl a x) (hh : XE X EK cl h c) : XE X EK cl (.Subscript a (.Slice none (some h) none p2) pos) (cOp fSlB [x, .v (cInt c)]) := (pe_slice slr ha po_none (po_some hh)).imp fun _ _ _ w => te_slB w
theorem x_sl0 {a : Expr} {x : Ar} (ha : XR X EK cl a x) : XE X EK cl (.Subscript a (.Slice none none none p2) pos) (cOp fSl0 [x]) := (pe_slice slr ha po_none po_none).imp fun _ _ _ w => te_sl0 w
theorem x_rev {a : Expr} {x : Ar} {k : Nat} (ha : XR X EK cl a x) : XE X EK cl (.Subscript a (.Slice none none (some (.UnaryOp .USub (.Constant (.int 1) k p) p2)) p3) pos) (cOp fRev [x]) := (pe_revE ha).imp fun _ _ _ w => te_D1 w
/-! ### calls -/
theorem x_callB {e : Expr} {es : List Expr} {id : String} {f : OpF} {x : Str} {as : List Ar} (hc : CallR X (.builtin id) (rD X.K f)) (hv : bootBuiltins x = some (.builtin id)) (hm : X.mg x = none) (ha : XA X EK cl (e :: es) as) (hg : Gl X x := by rfl) (hn : x ≠ "__name__" := by decide) (hdb : (x == ("__debug__" : Str)) = false := by decide)
    (he : starEach (e :: es) X.env = (false, eval e X.env) :: starEach es X.env := by rfl) (hpl : (backTo pos (starEach es X.env)).any (·.1) = false := by rfl) : XE X EK cl (.Call (.Name x p) (e :: es) [] pos) (cOp f as) := (pe_callB hc hg hm hv ha hn hdb he hpl).imp fun _ _ _ h => te_D h
theorem x_callT {e : Expr} {es : List Expr} {T : String} {f : OpF} {x : Str} {as : List Ar} (hc : CallR X (.type T) (rD X.K f)) (hv : bootBuiltins x = some (.type T)) (hm : X.mg x = none) (ha : XA X EK cl (e :: es) as) (hg : Gl X x := by rfl) (hn : x ≠ "__name__" := by decide) (hdb : (x == ("__debug__" : Str)) = false := by decide)
    (he : starEach (e :: es) X.env = (false, eval e X.env) :: starEach es X.env := by rfl) (hpl : (backTo pos (starEach es X.env)).any (·.1) = false := by rfl) : XE X EK cl (.Call (.Name x p) (e :: es) [] pos) (cOp f as) := (pe_callTy hc hg hm hv ha hn hdb he hpl).imp fun _ _ _ h => te_D h
theorem x_listRev {e : Expr} {a : Ar} (hc : X.calm = true) (hm : X.mg "list" = none) (hm2 : X.mg "reversed" = none) (he : XR X EK cl e a) (hg : Gl X "list" := by rfl) (hg2 : Gl X "reversed" := by rfl) (hs : starEach [e] X.env = (false, eval e X.env) :: starEach [] X.env := by rfl)
    (hs2 : starEach [.Call (.Name "reversed" p2) [e] [] pos2] X.env = (false, eval (.Call (.Name "reversed" p2) [e] [] pos2) X.env) :: starEach [] X.env := by rfl) :
    XE X EK cl (.Call (.Name "list" p) [.Call (.Name "reversed" p2) [e] [] pos2] [] pos) (cOp fListRev [a]) := (pe_listRev hc hg hm hg2 hm2 he hs hs2).imp fun _ _ _ h => te_D1 h
theorem x_meth {o e : Expr} {es : List Expr} {name : Str} {apos : Pos} {T id : String} {ty : PyData → Bool} {f : OpF} {a : Ar} {as : List Ar} (pa : PlainAttrs T) (slot : Slot T name id) (hty : typeOf (.builtin id) = pure (.type "method_descriptor")) (hm : MtR X id (rDM X.K f))
    (ht : ∀ {v d H G}, ty d = true → Same G H → Rt X.K H G v d → TyE X.K T v H) (ho : XR X EK cl o a) (ha : XA X EK cl (e :: es) as)
    (hbase : attributeBase o name X.env (eval o X.env) = eval o X.env := by rfl)
    (hfew : ((backTo pos (starEach (e :: es) X.env)).all (fun x => !x.1) && (backToKw pos (keywordEach [] X.env)).all (fun x => x.1.isSome)
      && decide ((e :: es).length + ([] : List Keyword).length + (if ([] : List Keyword).isEmpty then 0 else 1) < 30)) = true := by rfl)
    (hline : (apos.endLine == pos.line) = true := by rfl) (hs : starEach (e :: es) X.env = (false, eval e X.env) :: starEach es X.env := by rfl) (hplain : (backTo pos (starEach es X.env)).any (·.1) = false := by rfl) :
    XE X EK cl (.Call (.Attribute o name apos) (e :: es) [] pos) (cMeth ty f a as) := (pe_bmE pa slot hty hm ho ha hbase hfew hline hs hplain).imp fun _ _ _ h => te_meth ht h
theorem x_mut (i : Nat) {x : Str} {e : Expr} {es : List Expr} {name : Str} {apos : Pos} {id : String} {f : MuF} {r : V → List V → Hp → VK → Prop} {as : List Ar} (slot : Slot "list" name id) (hty : typeOf (.builtin id) = pure (.type "method_descriptor")) (hm : MtR X id r) (hf : MuS' r f X.K)
    (ha : XA X EK cl (e :: es) as) (hn : arSl as = [] := by rfl) (hN : X.N[i]? = some x := by rfl) (hv : Vis X.env.scope x := by first | exact Or.inl rfl | exact Or.inr (Or.inl rfl) | exact Or.inr (Or.inr rfl)) (hd : (x == ("__debug__" : Str)) = false := by decide)
    (hcd : (x == ("__classdict__" : Str)) = false := by decide) (hbase : attributeBase (.Name x p) name X.env (eval (.Name x p) X.env) = eval (.Name x p) X.env := by rfl)
    (hfew : ((backTo pos (starEach (e :: es) X.env)).all (fun x => !x.1) && (backToKw pos (keywordEach [] X.env)).all (fun x => x.1.isSome)
      && decide ((e :: es).length + ([] : List Keyword).length + (if ([] : List Keyword).isEmpty then 0 else 1) < 30)) = true := by rfl)
    (hline : (apos.endLine == pos.line) = true := by rfl) (hs : starEach (e :: es) X.env = (false, eval e X.env) :: starEach es X.env := by rfl) (hplain : (backTo pos (starEach es X.env)).any (·.1) = false := by rfl) :
    XE X EK cl (.Call (.Attribute (.Name x p) name apos) (e :: es) [] pos) (cMut f i as) := (pe_bm F.plainAttrs_list slot hty hm (pe_var hN hv hd hcd) ha hbase hfew hline hs hplain).imp fun _ _ _ h => te_mutF hf hn h
/-- nothing leaves a call whose wish is False -/
theorem pass0E {σ : L2.St} : PassesAt (CX X.prog X.w) X σ (WE W0 σ) := fun pins H s e s' I c => by
  obtain ⟨_, _, _, _, _, _, _, _, _, _, _, _, z⟩ := c
  exact z.elim
theorem x_call {f np : Nat} {io : List Nat} {back : List (Nat × Nat)} {as : List Ar} {k : Nat} {fA : Addr} {fd : FuncData} {ps : List Str} {x : Str} {e : Expr} {es : List Expr} (Fo : FnG X.prog X.w X.K X.mg X.base (CX X.prog X.w) k fA fd ps (spF X.K EK (cl f) np io)) (hgd : X.A.guards = some []) (hr : Room k X.A)
    (hm : X.mg x = some (.ref fA)) (hk : PySem.W.keepIn X.K (.ref fA) = true) (hb : Binds X.K fd ps []) (ha : XA X EK cl (e :: es) as) (hbk : backB (as.map arN) io back = true := by rfl) (hnp : as.length = np := by rfl) (hg : Gl X x := by rfl) (hdb : (x == ("__debug__" : Str)) = false := by decide)
    (he : starEach (e :: es) X.env = (false, eval e X.env) :: starEach es X.env := by rfl) (hpl : (backTo pos (starEach es X.env)).any (·.1) = false := by rfl) : XE X EK cl (.Call (.Name x p) (e :: es) [] pos) (cCall f back as) :=
  (pe_callG Fo hgd hr hg hm hk hb (fun _ => pass0E) ha hdb he hpl).imp fun _ _ _ h => te_call hnp (backB_ok hbk) h
theorem x_call0 {f : Nat} {io : List Nat} {k : Nat} {fA : Addr} {fd : FuncData} {ps : List Str} {x : Str} (Fo : FnG X.prog X.w X.K X.mg X.base (CX X.prog X.w) k fA fd ps (spF X.K EK (cl f) 0 io)) (hgd : X.A.guards = some []) (hr : Room k X.A)
    (hm : X.mg x = some (.ref fA)) (hk : PySem.W.keepIn X.K (.ref fA) = true) (hb : Binds X.K fd ps []) (hg : Gl X x := by rfl) (hdb : (x == ("__debug__" : Str)) = false := by decide) : XE X EK cl (.Call (.Name x p) [] [] pos) (cCall f [] []) :=
  (pe_callG0 Fo hgd hr hg hm hk hb (fun _ => pass0E) hdb).imp fun _ _ _ h => rdAs_nil (te_call (as := []) (io := io) (back := []) rfl ⟨fun k l i a => by simp at a, fun k i a => by simp at a, fun i j a => by simp at a, List.nodup_nil⟩ h)
theorem xk_nil : PK X [] (rdEs X.K EK W0 cl []) := ⟨fun pos pins s σ H Q I h => (pk_nil (X := X)).run pos pins s σ H Q I (rdEs_nil h)⟩
theorem xk_cons {e : Expr} {kws : List Keyword} {c : CE} {cs : List CE} {nm : Option Str} {kpos : Pos} (h : XE X EK cl e c) (hs : PK X kws (rdEs X.K EK W0 cl cs)) : PK X (⟨nm, e, kpos⟩ :: kws) (rdEs X.K EK W0 cl (c :: cs)) :=
  ⟨fun pos pins s σ H Q I w => (pk_cons h hs).run pos pins s σ H Q I (rdEs_cons w)⟩
theorem x_callK {f np : Nat} {io perm : List Nat} {cs : List CE} {k : Nat} {fA : Addr} {fd : FuncData} {ps ks : List Str} {x : Str} {kws : List Keyword} (Fo : FnG X.prog X.w X.K X.mg X.base (CX X.prog X.w) k fA fd ps (spF X.K EK (cl f) np io)) (hgd : X.A.guards = some []) (hr : Room k X.A)
    (hm : X.mg x = some (.ref fA)) (hk : PySem.W.keepIn X.K (.ref fA) = true) (hb : KB0 fd ps ks perm) (ha : PK X kws (rdEs X.K EK W0 cl cs)) (hl : cs.length = ks.length := by rfl) (hnp : perm.length = np := by rfl) (hg : Gl X x := by rfl)
    (hall : (backToKw pos (keywordEach kws X.env)).all (·.1.isSome) = true := by rfl) (hks : (backToKw pos (keywordEach kws X.env)).filterMap (·.1) = ks := by rfl)
    (hdb : (x == ("__debug__" : Str)) = false := by decide) (hpl : ((backTo pos (starEach [] X.env)).any (·.1) || (backToKw pos (keywordEach kws X.env)).any (·.1.isNone)) = false := by rfl) :
    XE X EK cl (.Call (.Name x p) [] kws pos) (cCallK f perm cs) :=
  (pe_callK0 Fo hgd hr hg hm hk hb (fun _ => pass0E) ha hall hks hdb hpl).imp fun _ _ _ h => by
    rw [← hl]
    exact te_callK hnp (fun j hj => by rw [hl]; exact hb.lt j hj) h
end
end Ev
end

section
set_option Elab.async false
set_option linter.all false
set_option maxRecDepth 100000
set_option maxHeartbeats 1000000
/-! The rules: tests, blocks, statements. -/
namespace Ev
open PySem PySem.Spec PyProof.Rows L2
section
variable {X : Cx} {EK : EKT} {cl : Cl} {Pr : List Nat} {pos p p2 p3 p4 pos2 : Pos} {K : PySem.W.Frag} {σ : L2.St} {H : Hp}
/-! ### tests -/
theorem xt_e {e : Expr} {a : Ar} (h : XR X EK cl e a) (he : ∀ whole, isTrue e X.env whole = (do let v ← whole; standAt e.pos; holding [v] (truthy v)) := by intro _; rfl) : XT X EK cl e (ctE a) := (pt_truth h he).imp fun _ _ _ w => te_ctE w
theorem xt_cmp {op : CmpOp} {f : OpF} {a b : Expr} {x y : Ar} (ho : OpR X (compareOp op) (rD2 X.K f)) (ha : XR X EK cl a x) (hb : XR X EK cl b y) (hm : behindInMarks op b = false := by first | exact nomark _ | rfl) : XT X EK cl (.Compare a [op] [b] pos) (ctB (cOp f [x, y])) :=
  (pt_cmpR ho ha hb hm).imp fun _ _ _ h => te_D2 (te_ctB h)
theorem xt_eq {a b : Expr} {x y : Ar} (hu : X.A.units + 64 < cLine) (ha : XR X EK cl a x) (hb : XR X EK cl b y) : XT X EK cl (.Compare a [.Eq] [b] pos) (ctB (cOp (fEqM false) [x, y])) := (pt_cmpR (op_eqM hu) ha hb (nomark _)).imp fun _ _ _ h => te_op2 ops_eqM (te_ctB h)
theorem xt_ne {a b : Expr} {x y : Ar} (hu : X.A.units + 64 < cLine) (ha : XR X EK cl a x) (hb : XR X EK cl b y) : XT X EK cl (.Compare a [.NotEq] [b] pos) (ctB (cOp (fEqM true) [x, y])) := (pt_cmpR (op_neM hu) ha hb (nomark _)).imp fun _ _ _ h => te_op2 ops_eqM (te_ctB h)
theorem xt_ixNil (i : Nat) {x : Str} {j : Nat} (hu : X.A.units + 64 < cLine) (hN : X.N[i]? = some x := by rfl) (hv : Vis X.env.scope x := by first | exact Or.inl rfl | exact Or.inr (Or.inl rfl) | exact Or.inr (Or.inr rfl)) (hd : (x == ("__debug__" : Str)) = false := by decide)
    (hcd : (x == ("__classdict__" : Str)) = false := by decide) : XT X EK cl (.Compare (.Subscript (.Name x p) (.Constant (.int 0) j p2) p3) [.Eq] [.List [] p4] pos) (ctB (cIxNil (fEqM false) fIx i false)) :=
  (pt_cmpR (op_eqM hu) (pe_ix ixrE (pe_var hN hv hd hcd) pe_int fun _ _ => rfl) (pe_lst pa_nil) (nomark _)).imp fun _ _ _ h => te_ixNil ops_ixE (fun _ _ _ _ z => .inr z) ops_eqM (te_ctB h)
theorem xt_ixNilN (i : Nat) {x : Str} {j : Nat} (hu : X.A.units + 64 < cLine) (hN : X.N[i]? = some x := by rfl) (hv : Vis X.env.scope x := by first | exact Or.inl rfl | exact Or.inr (Or.inl rfl) | exact Or.inr (Or.inr rfl)) (hd : (x == ("__debug__" : Str)) = false := by decide)
    (hcd : (x == ("__classdict__" : Str)) = false := by decide) : XT X EK cl (.Compare (.Subscript (.Name x p) (.Constant (.int 0) j p2) p3) [.NotEq] [.List [] p4] pos) (ctB (cIxNil (fEqM true) fIx i true)) :=
  (pt_cmpR (op_neM hu) (pe_ix ixrE (pe_var hN hv hd hcd) pe_int fun _ _ => rfl) (pe_lst pa_nil) (nomark _)).imp fun _ _ _ h => te_ixNil ops_ixE (fun _ _ _ _ z => .inr z) ops_eqM (te_ctB h)
theorem xt_not {e : Expr} {t : CT} (h : XT X EK cl e t) : XT X EK cl (.UnaryOp .Not e pos) (ctNot t) := (pt_not h).imp fun _ _ _ w => te_not w
theorem xw_and1 {e : Expr} {t : CT} (h : XT X EK cl e t) : XW X EK cl (.BoolOp .And [e] pos) t := pw_and1 h
theorem xw_or1 {e : Expr} {t : CT} (h : XT X EK cl e t) : XW X EK cl (.BoolOp .Or [e] pos) t := pw_or1 h
theorem xw_and {e b : Expr} {r : List Expr} {t u : CT} (h : XT X EK cl e t) (hr : XW X EK cl (.BoolOp .And (b :: r) pos) u) : XW X EK cl (.BoolOp .And (e :: b :: r) pos) (ctAnd t u) := (pw_and h hr).imp fun _ _ _ w => te_and w
theorem xw_or {e b : Expr} {r : List Expr} {t u : CT} (h : XT X EK cl e t) (hr : XW X EK cl (.BoolOp .Or (b :: r) pos) u) : XW X EK cl (.BoolOp .Or (e :: b :: r) pos) (ctOr t u) := (pw_or h hr).imp fun _ _ _ w => te_or w
theorem xt_w {e : Expr} {t : CT} (h : XW X EK cl e t) : XT X EK cl e t := h.pt
/-! ### and, or, not as values -/
theorem x_one {op : BoolOp} {e : Expr} {c : CE} (h : XE X EK cl e c) : XE X EK cl (.BoolOp op [e] pos) c := pe_one h
theorem x_and {e b : Expr} {r : List Expr} {c d : CE} (h : XE X EK cl e c) (hr : XE X EK cl (.BoolOp .And (b :: r) pos) d) : XE X EK cl (.BoolOp .And (e :: b :: r) pos) (cAnd c d) := (pe_andT h hr).imp fun _ _ _ w => te_andV w
theorem x_or {e b : Expr} {r : List Expr} {c d : CE} (h : XE X EK cl e c) (hr : XE X EK cl (.BoolOp .Or (b :: r) pos) d) : XE X EK cl (.BoolOp .Or (e :: b :: r) pos) (cOr c d) := (pe_orT h hr).imp fun _ _ _ w => te_orV w
theorem x_not {e : Expr} {a : Ar} (h : XR X EK cl e a) : XE X EK cl (.UnaryOp .Not e pos) (cNot a) := (pe_notT h).imp fun _ _ _ w => te_notV w
theorem x_ifE {t a b : Expr} {tc : CT} {ca cb : CE} (ht : XT X EK cl t tc) (ha : XE X EK cl a ca) (hb : XE X EK cl b cb) : XE X EK cl (.IfExp t a b pos) (cIfE tc ca cb) := (pe_ifExp ht ha hb).imp fun _ _ _ w => te_ifE w
/-! ### targets, what is walked -/
theorem xg_n (i : Nat) {x : Str} (hN : X.N.Nodup) (hi : X.N[i]? = some x := by rfl) (hx : Loc X.env.scope x := by first | exact Or.inl rfl | exact Or.inr rfl) (hf : X.fn x = true ∨ X.env.scope.names.lookup x = some .local := by first | exact .inl rfl | exact .inr rfl) : XG X (.Name x pos) (.n i) :=
  PG.imp (pg_name hN hi hx hf) fun _ _ _ _ h => tg_name h
abbrev XGs (X : Cx) (ts : List Expr) (l : List Tg) : Prop := PGs X ts (rdGs X.K l)
theorem xgs_nil : XGs X [] [] := PGs.imp pgs_nil fun _ _ _ _ h => tgs_nil h
theorem xgs_cons {e : Expr} {es : List Expr} {t : Tg} {l : List Tg} (h : XG X e t) (hs : XGs X es l) (ha : (assignEach (e :: es) X.env).map (·.2) = assign e X.env :: (assignEach es X.env).map (·.2) := by rfl) : XGs X (e :: es) (t :: l) := PGs.imp (pgs_cons h hs ha) fun _ _ _ _ w => tgs_cons w
theorem xg_t {es : List Expr} {k : Nat} {l : List Tg} (hc : X.calm = true) (h : XGs X es l) (hn : (assignEach es X.env).length = l.length := by rfl) (hst : (assignEach es X.env).findIdx? (·.1) = none := by rfl) : XG X (.Tuple es k pos) (.t l) :=
  PG.imp (PG.or (pg_tup hc h hn hst) (pg_lst hc h hn hst)) fun _ _ _ _ w => tg_tup w
theorem xi_val {tg e : Expr} {a : Ar} (h : XR X EK cl e a) : XI X EK cl tg e ⟨[a], itV⟩ false := PI.imp (pi_val h) fun _ _ _ w => rdAs_1 (rdAs.imp (rdI_of (it := ⟨[a], itV⟩) its_val w) fun vs H' q v ev => by rw [ev] at q; exact q)
theorem xi_r1 {tg a : Expr} {x : Ar} (hm : X.mg "range" = none) (ha : XA X EK cl [a] [x]) (hg : Gl X "range" := by rfl) (hs : starEach [a] X.env = [(false, eval a X.env)] := by rfl) : XI X EK cl tg (.Call (.Name "range" p) [a] [] pos) ⟨[x], itR1⟩ false := PI.imp (pi_range1 hg hm ha hs) fun _ _ _ w => rdI_of (it := ⟨[x], itR1⟩) its_r1 w
theorem xi_r2 {tg a b : Expr} {x y : Ar} (hm : X.mg "range" = none) (ha : XA X EK cl [a, b] [x, y]) (hg : Gl X "range" := by rfl) (hs : starEach [a, b] X.env = [(false, eval a X.env), (false, eval b X.env)] := by rfl) (hs2 : starEach [b] X.env = [(false, eval b X.env)] := by rfl) :
    XI X EK cl tg (.Call (.Name "range" p) [a, b] [] pos) ⟨[x, y], itR2⟩ false := PI.imp (pi_range2 hg hm ha hs hs2) fun _ _ _ w => rdI_of (it := ⟨[x, y], itR2⟩) its_r2 w
theorem xi_r3 {tg a b c : Expr} {x y z : Ar} (hm : X.mg "range" = none) (ha : XA X EK cl [a, b, c] [x, y, z]) (hg : Gl X "range" := by rfl) (hs : starEach [a, b, c] X.env = (false, eval a X.env) :: starEach [b, c] X.env := by rfl) (hpl : (backTo pos (starEach [b, c] X.env)).any (·.1) = false := by rfl) :
    XI X EK cl tg (.Call (.Name "range" p) [a, b, c] [] pos) ⟨[x, y, z], itR3⟩ false := PI.imp (pi_range3 hg hm ha hs hpl) fun _ _ _ w => rdI_of (it := ⟨[x, y, z], itR3⟩) its_r3 w
theorem xi_enum {a : Expr} {elts : List Expr} {kk : Nat} {x : Ar} (hm : X.mg "enumerate" = none) (ha : XA X EK cl [a] [x]) (hg : Gl X "enumerate" := by rfl) (hs : starEach [a] X.env = [(false, eval a X.env)] := by rfl) : XI X EK cl (.Tuple elts kk p2) (.Call (.Name "enumerate" p) [a] [] pos) ⟨[x], itE⟩ true :=
  PI.imp (pi_enumS hg hm ha hs) fun _ _ _ w => rdI_of (it := ⟨[x], itE⟩) its_enum w
theorem xi_zip {a b : Expr} {elts : List Expr} {kk : Nat} {x y : Ar} (hm : X.mg "zip" = none) (ha : XA X EK cl [a, b] [x, y]) (hg : Gl X "zip" := by rfl) (hs : starEach [a, b] X.env = (false, eval a X.env) :: starEach [b] X.env := by rfl) (hpl : (backTo pos (starEach [b] X.env)).any (·.1) = false := by rfl) :
    XI X EK cl (.Tuple elts kk p2) (.Call (.Name "zip" p) [a, b] [] pos) ⟨[x, y], itZ⟩ true := PI.imp (pi_zipS hg hm ha hs hpl) fun _ _ _ w => rdI_of (it := ⟨[x, y], itZ⟩) its_zip w
/-! ### comprehensions -/
theorem te_yes {Q : Bool → Hp → Prop} (h : rdT K EK W0 cl ctYes σ H Q) : tYes σ H Q := by
  obtain ⟨e, G, F, P, x, h⟩ := h
  exact h H G F x .refl
theorem PTs.imp {ifs : List Expr} {t t' : TT} (h : PTs X ifs t) (q : ∀ σ H Q, t' σ H Q → t σ H Q) : PTs X ifs t' := ⟨fun pins s σ H Q I w => h.run pins s σ H Q I (q _ _ _ w)⟩
abbrev XTs (X : Cx) (EK : EKT) (cl : Cl) (ifs : List Expr) (t : CT) : Prop := PTs X ifs (rdT X.K EK W0 cl t)
theorem xts_nil : XTs X EK cl [] ctYes := PTs.imp pts_nil fun _ _ _ w => te_yes w
theorem xts_one {e : Expr} {t : CT} (h : XT X EK cl e t) : XTs X EK cl [e] t := pts_one h
theorem x_lc {elt tg iter : Expr} {ifs : List Expr} {scope : Scope} (own : List (Str × Nat)) {os : List Nat} {it : Ev.It} {t : Tg} {tc : CT} {c : CE} {pair : Bool} (hc : X.calm = true) (hN : X.N.Nodup) (hi : XI X EK cl tg iter it pair)
    (hg : ∀ (s : Shared) (H : Hp) (C : Addr) (cl : List (Str × Addr)) (fp : List Addr), XG (X.blk s H scope (compEnvC scope cl C X.env) fp) tg t) (ht : ∀ (s : Shared) (H : Hp) (C : Addr) (cl' : List (Str × Addr)) (fp : List Addr), XTs (X.blk s H scope (compEnvC scope cl' C X.env) fp) EK cl ifs tc)
    (he : ∀ (s : Shared) (H : Hp) (C : Addr) (cl' : List (Str × Addr)) (fp : List Addr), XE (X.blk s H scope (compEnvC scope cl' C X.env) fp) EK cl elt c) (hos : own.map (·.2) = os := by rfl) (ok : blkC X.N X.env.scope scope own = true := by first | rfl | decide +kernel) (hp : pair = true → isT t = true := by decide) (ho : ∀ j ∈ tgSl t, j ∈ os := by decide)
    (hs : ∀ x, foldedSetIterable iter X.env x = pure x := by intro _; rfl) : XE X EK cl (.ListComp elt [⟨tg, iter, ifs, 0⟩] scope pos) (cLC it t os tc c) := by
  subst hos
  exact (pe_lc hc hN hi (blkOk_by ok) hg ht he hs).imp fun _ _ _ h => te_LC hp ho h
/-! ### statements -/
theorem rdEs_imp {W : WX} {cs : List CE} {Q Q' : List V → Hp → Prop} (h : rdEs K EK W cl cs σ H Q) (q : ∀ vs H, Q vs H → Q' vs H) : rdEs K EK W cl cs σ H Q' := by
  obtain ⟨e, G, F, P, x, h⟩ := h
  refine ⟨e, G, F, P, x, ?_⟩
  cases r : esRun cs cl e with
  | ok p =>
    rw [r] at h
    exact fun v H' G' F' T a b s => q _ _ (h v H' G' F' T a b s)
  | ex n d e' => rw [r] at h; exact h
  | no => rw [r] at h; exact h
theorem xs_asgLc (i : Nat) {x : Str} {elt tg iter : Expr} {ifs : List Expr} {scope : Scope} (own : List (Str × Nat)) {os : List Nat} {it : Ev.It} {t : Tg} {tc : CT} {c : CE} {pair : Bool} (hc : X.calm = true) (hN : X.N.Nodup) (hi : XI X EK cl tg iter it pair)
    (hg : ∀ (s : Shared) (H : Hp) (C : Addr) (cl : List (Str × Addr)) (fp : List Addr), XG (X.blk s H scope (compEnvC scope cl C X.env) fp) tg t) (ht : ∀ (s : Shared) (H : Hp) (C : Addr) (cl' : List (Str × Addr)) (fp : List Addr), XTs (X.blk s H scope (compEnvC scope cl' C X.env) fp) EK cl ifs tc)
    (he : ∀ (s : Shared) (H : Hp) (C : Addr) (cl' : List (Str × Addr)) (fp : List Addr), XE (X.blk s H scope (compEnvC scope cl' C X.env) fp) EK cl elt c) (hos : own.map (·.2) = os := by rfl) (ok : blkC X.N X.env.scope scope own = true := by first | rfl | decide +kernel) (hp : pair = true → isT t = true := by decide) (ho : ∀ j ∈ tgSl t, j ∈ os := by decide)
    (hs : ∀ x, foldedSetIterable iter X.env x = pure x := by intro _; rfl) (hy : X.N[i]? = some x := by rfl) (hyl : X.env.scope.names.lookup x = some .local := by rfl) (hpr : i ∉ Pr := by decide)
    (hsw : swapsWith (.ListComp elt [⟨tg, iter, ifs, 0⟩] scope pos) (some (.Name x p)) pos2.line X.env = pure true := by rfl) :
    XS X EK cl Pr (.Assign [.Name x p] (.ListComp elt [⟨tg, iter, ifs, 0⟩] scope pos) pos2) (cAsg i (cLC it t os tc c)) := by
  subst hos
  exact (ps_setLc hc hN hy hyl hsw hi (blkOk_by ok) hg ht he hs).imp fun _ _ _ h => te_LC hp ho (ts_asg hpr h)
theorem xs_asg (i : Nat) {x : Str} {e : Expr} {c : CE} (hN : X.N.Nodup) (he : XE X EK cl e c) (hpr : i ∉ Pr := by decide) (hi : X.N[i]? = some x := by rfl) (hx : Loc X.env.scope x := by first | exact Or.inl rfl | exact Or.inr rfl)
    (hs : swapsWith e (some (.Name x p)) pos.line X.env = pure false := by rfl) (hf : X.fn x = true ∨ X.env.scope.names.lookup x = some .local := by first | exact .inl rfl | exact .inr rfl) : XS X EK cl Pr (.Assign [.Name x p] e pos) (cAsg i c) :=
  (ps_set hN hi hx he hs hf).imp fun _ _ _ h => ts_asg hpr h
theorem xs_unp {tg e : Expr} {t : Tg} {c : CE} (he : XE X EK cl e c) (hg : XG X tg t) (hpr : ∀ j ∈ tgSl t, j ∉ Pr := by decide) (hs : swapsWithSole [tg] e pos.line X.env = pure false := by rfl) (hw : swappedStores [tg] e X.env = pure none := by rfl)
    (h1 : (assignEach [tg] X.env).map (·.2) = [assign tg X.env] := by rfl) : XS X EK cl Pr (.Assign [tg] e pos) (cUnp t c) := (ps_asg he hg hs hw h1).imp fun _ _ _ h => ts_unp hpr h
theorem xs_par2 (i j : Nat) {x y : Str} {a b : Expr} {c d : CE} {kt k2 : Nat} {px py pt pt2 : Pos} (hc : X.calm = true) (hN : X.N.Nodup) (ha : XL X EK cl [a, b] [c, d]) (hpr : ∀ k ∈ [i, j], k ∉ Pr := by decide) (hij : i ≠ j := by decide) (hi : X.N[i]? = some x := by rfl) (hj : X.N[j]? = some y := by rfl)
    (hx : X.env.scope.names.lookup x = some .local := by rfl) (hy : X.env.scope.names.lookup y = some .local := by rfl)
    (hw : swappedStores [.Tuple [.Name x px, .Name y py] kt pt] (.Tuple [a, b] k2 pt2) X.env = pure (some [x, y]) := by rfl) (hs : swapsWithSole [.Tuple [.Name x px, .Name y py] kt pt] (.Tuple [a, b] k2 pt2) pos.line X.env = pure false := by rfl) :
    XS X EK cl Pr (.Assign [.Tuple [.Name x px, .Name y py] kt pt] (.Tuple [a, b] k2 pt2) pos) (cPar [i, j] [c, d]) := (ps_par hc hN hi hj hij hx hy ha hw hs).imp fun _ _ _ h => by
  refine rdEs_imp (ts_par hpr h) fun vs H1 ⟨hl, q⟩ => ?_
  rcases vs with _ | ⟨v, _ | ⟨w, _ | ⟨u, vs⟩⟩⟩ <;> first | (simp at hl; done) | skip
  exact ⟨v, w, rfl, q H1 (Same.refl _)⟩
theorem xs_par3 (i j l : Nat) {x y z : Str} {a b e : Expr} {c d f : CE} {kt k2 : Nat} {px py pz pt pt2 : Pos} (hc : X.calm = true) (hN : X.N.Nodup) (ha : XL X EK cl [a, b, e] [c, d, f]) (hpr : ∀ k ∈ [i, j, l], k ∉ Pr := by decide) (hij : i ≠ j := by decide) (hil : i ≠ l := by decide) (hjl : j ≠ l := by decide)
    (hi : X.N[i]? = some x := by rfl) (hj : X.N[j]? = some y := by rfl) (hl : X.N[l]? = some z := by rfl)
    (hx : X.env.scope.names.lookup x = some .local := by rfl) (hy : X.env.scope.names.lookup y = some .local := by rfl) (hz : X.env.scope.names.lookup z = some .local := by rfl)
    (hw : swappedStores [.Tuple [.Name x px, .Name y py, .Name z pz] kt pt] (.Tuple [a, b, e] k2 pt2) X.env = pure (some [x, y, z]) := by rfl) (hs : swapsWithSole [.Tuple [.Name x px, .Name y py, .Name z pz] kt pt] (.Tuple [a, b, e] k2 pt2) pos.line X.env = pure false := by rfl) :
    XS X EK cl Pr (.Assign [.Tuple [.Name x px, .Name y py, .Name z pz] kt pt] (.Tuple [a, b, e] k2 pt2) pos) (cPar [i, j, l] [c, d, f]) := (ps_par3 hc hN hi hj hl hij hil hjl hx hy hz ha hw hs).imp fun _ _ _ h => by
  refine rdEs_imp (ts_par hpr h) fun vs H1 ⟨hl, q⟩ => ?_
  rcases vs with _ | ⟨v, _ | ⟨w, _ | ⟨u, _ | ⟨u2, vs⟩⟩⟩⟩ <;> first | (simp at hl; done) | skip
  exact ⟨v, w, u, rfl, q H1 (Same.refl _)⟩
def seL : SeF := fun d k v => match d, k with
  | .list ds, .int z => (ixN ds.length z).map fun j => .list (ds.set j v)
  | _, _ => none
theorem se_L : SeS seL := fun d k v d' h => by
  unfold seL at h
  split at h
  · rename_i ds z
    cases q : ixN ds.length z with
    | none => rw [q] at h; cases h
    | some j =>
      rw [q] at h
      cases h
      exact ⟨ds, z, j, rfl, rfl, q, rfl⟩
  · cases h
theorem xs_set (i : Nat) {x : Str} {k e : Expr} {a : Ar} {c : CE} (he : XE X EK cl e c) (hk : XR X EK cl k a) (hN : X.N[i]? = some x := by rfl) (hv : Vis X.env.scope x := by first | exact Or.inl rfl | exact Or.inr (Or.inl rfl) | exact Or.inr (Or.inr rfl)) (hd : (x == ("__debug__" : Str)) = false := by decide)
    (hcd : (x == ("__classdict__" : Str)) = false := by decide)
    (ha : ∀ v, assign (.Subscript (.Name x p) k p2) X.env v = (do
      let ov ← holding [v] (eval (.Name x p) X.env)
      let iv ← holding [v, ov] (eval k X.env)
      standAt p2
      holding [v, ov, iv] (setItem ov iv v)
      release [v, ov, iv] []) := by intro _; rfl) (hs : swapsWithSole [.Subscript (.Name x p) k p2] e pos.line X.env = pure false := by rfl) (hw : swappedStores [.Subscript (.Name x p) k p2] e X.env = pure none := by rfl)
    (h1 : (assignEach [.Subscript (.Name x p) k p2] X.env).map (·.2) = [assign (.Subscript (.Name x p) k p2) X.env] := by rfl) : XS X EK cl Pr (.Assign [.Subscript (.Name x p) k p2] e pos) (cSet seL i a c) :=
  (ps_asg he (pg_sub (pe_var hN hv hd hcd) hk set_list ha) hs hw h1).imp fun _ _ _ h => ts_set se_L h
theorem xs_do {e : Expr} {c : CE} (he : XE X EK cl e c) (hs : swapsWith e none pos.line X.env = pure false := by rfl) : XS X EK cl Pr (.Expr e pos) (cDo c) := (ps_expr he hs).imp fun _ _ _ h => ts_do h
theorem xs_ret {e : Expr} {c : CE} (he : XE X EK cl e c) : XS X EK cl Pr (.Return (some e) pos) (cRet c) := (ps_ret he).imp fun _ _ _ h => ts_ret h
theorem xs_mov (i : Nat) {x : Str} (hN : X.N[i]? = some x := by rfl) (hv : Vis X.env.scope x := by first | exact Or.inl rfl | exact Or.inr (Or.inl rfl) | exact Or.inr (Or.inr rfl)) (hd : (x == ("__debug__" : Str)) = false := by decide)
    (hcd : (x == ("__classdict__" : Str)) = false := by decide) : XS X EK cl Pr (.Return (some (.Name x p)) pos) (cMov i) := (ps_ret (pe_var hN hv hd hcd)).imp fun _ _ _ h => ts_mov h
theorem xs_bk : XS X EK cl Pr (.Break pos) cBk := ps_break.imp fun _ _ _ h => ts_bk h
theorem xs_ct : XS X EK cl Pr (.Continue pos) cCt := ps_continue.imp fun _ _ _ h => ts_ct h
theorem xs_if {t : Expr} {a b : List Stmt} {tc : CT} {ca cb : CS} (ht : XT X EK cl t tc) (ha : XB X EK cl Pr a ca) (hb : XB X EK cl Pr b cb) : XS X EK cl Pr (.If t a b pos) (cIf tc ca cb) := (ps_if ht ha hb).imp fun _ _ _ h => ts_if h
theorem xb_nil : XB X EK cl Pr [] cNx := pss_nil.imp fun _ _ _ h => ts_nx h
theorem xb_one {st : Stmt} {c : CS} (h : XS X EK cl Pr st c) : XB X EK cl Pr [st] c := pss_one h
theorem xb_cons {st : Stmt} {r : List Stmt} {c d : CS} (h : XS X EK cl Pr st c) (hr : XB X EK cl Pr r d) : XB X EK cl Pr (st :: r) (cSq c d) := (pss_cons h hr).imp fun _ _ _ w => ts_sq w
theorem xs_for {tg iter : Expr} {body : List Stmt} {it : Ev.It} {t : Tg} {c : CS} {pair : Bool} (Pb : List Nat) (hp : PassesOwn (model X.prog X.w) X.A X.env X.xe) (hc : X.calm = true) (hi : XI X EK cl tg iter it pair) (hg : XG X tg t) (hb : XB X EK cl Pb body c)
    (hPb : ∀ j ∈ Pr ++ arSl it.as, j ∈ Pb := by decide) (ht : ∀ j ∈ tgSl t, j ∉ Pb := by decide) (hpr : pair = true → isT t = true := by decide) (hs : ∀ x, foldedSetIterable iter X.env x = pure x := by intro _; rfl) : XS X EK cl Pr (.For tg iter body [] pos) (cFor it t c) :=
  (ps_for hp hc hi hg hb hs).imp fun _ _ _ h => ts_for hpr (fun j hj => hPb j (List.mem_append.mpr hj)) ht h
theorem xs_wh {t : Expr} {body : List Stmt} {tc : CT} {c : CS} (hp : PassesOwn (model X.prog X.w) X.A X.env X.xe) (ht : XT X EK cl t tc) (hb : XB X EK cl Pr body c) : XS X EK cl Pr (.While t body [] pos) (cWh tc c) := (ps_while hp ht hb).imp fun _ _ _ h => ts_wh h
/-! ### no exception leaves -/
def noEx (c : CS) : CS := fun cl e => match c cl e with
  | .ok p => .ok p
  | .ex _ _ _ => .no
  | .no => .no
theorem ts_noEx {W : WX} {c : CS} {D : Ends} (h : rdS K EK W cl Pr (noEx c) D σ H) : rdS K EK W0 cl Pr c D σ H := by
  obtain ⟨e, G, F, P, x, h⟩ := h
  refine ⟨e, G, F, P, x, ?_⟩
  unfold noEx at h
  cases q : c cl e with
  | no => simp only [q] at h; exact h
  | ex n d e' => simp only [q] at h; exact h.elim
  | ok p =>
    simp only [q] at h
    obtain ⟨e1, fl⟩ := p
    cases fl <;> exact h
end
section
variable {Pg : Program} {w : World} {K : PySem.W.Frag} {mg : Str → Option Value} {base : Heap} {EK : EKT} {cl : Cl} {x qual : Str} {params : Arguments} {body : List Stmt} {scope : Scope} {dvs : List V} {kws : List (Str × V)} {f : Addr} {fd : FuncData} {N ps : List Str} {k : Nat}
/-- a def of which no exception leaves -/
theorem fn_okN {fn : Fn} {c : CS} (hc : fn.body = noEx c) (F : FunD K x qual params body scope dvs kws f fd) (S : FnScope N ps scope) (hN : N.length = fn.ns) (hp : ps.length = fn.np) (hn : fn.np ≤ fn.ns) (nd : fn.io.Nodup)
    (hb : ∀ (cdv : Value) (A : Around) (outer : List Env) (s : Shared) (H : Hp) (E : XK), A.guards = some [] → Room k (A.deeper (envOfC qual scope s.heap.objs.size f cdv)) →
      XB (cxOf (CX Pg w) Pg w K mg base N qual scope f cdv A outer s H E) EK cl fn.io body c) :
    FnG Pg w K mg base (CX Pg w) (k + 1) f fd ps (spF K EK (fnRun fn cl) fn.np fn.io) :=
  fn_ok F S hN hp hn nd fun cdv A outer s H E hg hr tk => (hb cdv A outer s H E hg hr).imp fun _ _ _ h => by
    rw [hc] at h
    exact ts_noEx h
end
end Ev
namespace Ev
open PySem PySem.Spec PyProof.Rows L2
section
variable {X : Cx} {EK : EKT} {cl : Cl} {Pr : List Nat} {pos p p2 p3 p4 pos2 : Pos}
theorem x_revRepl {e : Expr} {a : Ar} {k j i : Nat} {y z : Str} {c0 c1 apos : Pos} (ha : XR X EK cl e a) (hyz : (y == z) = false := by decide)
    (hst : starEach [.Constant (.str y) j c0, .Constant (.str z) i c1] X.env = [(false, eval (.Constant (.str y) j c0) X.env), (false, eval (.Constant (.str z) i c1) X.env)] := by rfl)
    (hbase : attributeBase (.Subscript e (.Slice none none (some (.UnaryOp .USub (.Constant (.int 1) k p) p2)) p3) p4) "replace" X.env (eval (.Subscript e (.Slice none none (some (.UnaryOp .USub (.Constant (.int 1) k p) p2)) p3) p4) X.env) = eval (.Subscript e (.Slice none none (some (.UnaryOp .USub (.Constant (.int 1) k p) p2)) p3) p4) X.env := by rfl)
    (hline : (apos.endLine == pos.line) = true := by rfl) :
    XE X EK cl (.Call (.Attribute (.Subscript e (.Slice none none (some (.UnaryOp .USub (.Constant (.int 1) k p) p2)) p3) p4) "replace" apos) [.Constant (.str y) j c0, .Constant (.str z) i c1] [] pos) (cOp (fReplC y z) [.v (cOp fRev [a])]) :=
  (pe_revRepl ha hyz hst hbase hline).imp fun _ _ _ h => te_D1 (show rdE X.K EK W0 cl (cOp fRev [a]) _ _ _ from te_D1 h)
theorem u64 {k : Nat} {A : Around} (h : Room k A) : A.units + 64 < cLine := by have := h.un; omega
theorem u66 {k : Nat} {A : Around} (h : Room k A) : A.units + 66 < cLine := by have := h.un; omega
theorem u70 {k : Nat} {A : Around} (h : Room k A) : A.units + 70 < cLine := by have := h.un; omega
end
end Ev
namespace Ev
open PySem PySem.Spec PyProof.Rows L2
section
variable {X : Cx} {K : PySem.W.Frag} {H G : Hp}
def fMin2 : OpF := fI cYes fun i j => .int (if j < i then j else i)
def fMax2 : OpF := fI cYes fun i j => .int (if j > i then j else i)
theorem rD_int2 {g : Int → Int → PyData} {vs : List V} {Q : VK} (h : rD K (fI cYes g) vs H Q) : ∃ G i j, Same G H ∧ vs = [.int i, .int j] ∧ Fin K H G (.f, g i j) Q := by
  have h0 := h
  obtain ⟨G, ds, r, s, rt, hf, fin⟩ := h
  cases rt with
  | nil => cases hf
  | @cons v1 d1 vs ds a rt =>
    cases rt with
    | nil => cases d1 <;> cases hf
    | @cons v2 d2 vs ds b rt =>
      cases rt with
      | @cons v3 d3 vs ds c rt => cases d1 <;> first | cases hf | (cases d2 <;> cases hf)
      | nil =>
        obtain ⟨G', i, j, sg, e1, e2, _, fin'⟩ := rD2_int h0
        exact ⟨G', i, j, sg, by rw [e1, e2], fin'⟩
theorem cr_min2 (hc : X.calm = true) : CallR X (.builtin "min") (rD X.K fMin2) := fun pins s σ H xs us Q I r h => by
  obtain ⟨G, i, j, sg, rfl, fin⟩ := rD_int2 h
  exact call_min2 hc pins s σ H _ us Q I r ⟨i, j, rfl, fin.fg sg fun _ => .int _⟩
theorem cr_max2 (hc : X.calm = true) : CallR X (.builtin "max") (rD X.K fMax2) := fun pins s σ H xs us Q I r h => by
  obtain ⟨G, i, j, sg, rfl, fin⟩ := rD_int2 h
  exact call_max2 hc pins s σ H _ us Q I r ⟨i, j, rfl, fin.fg sg fun _ => .int _⟩
end
end Ev
end

section
set_option Elab.async false
set_option linter.all false
set_option maxRecDepth 100000
set_option maxHeartbeats 1000000
/-! The law is called. -/
namespace Ev
open PySem PySem.Spec PyProof.Rows L2
section
variable {P : Program} {w : World} {K : PySem.W.Frag} {mg mb : Str → Option Value} {k : Nat} {fa a : Addr} {fd : FuncData} {x : Str} {sp : Sp} {s1 : Shared} {vs : List Value} {ns : List Int}
/-- from a heap where the script alone may be tracked -/
theorem law_from {H : Hp} (KX : K.In s1.heap) (hns : s1.heap.Ns mainGlobals mg) (hb : s1.heap.Ns builtinsNs mb) (hbb : ∀ x : Str, x ≠ "__name__" → mb x = bootBuiltins x) (hlim : s1.heap.NoLimit) (hg : s1.gens = #[])
    (ha : s1.heap.get? a = some { cls := .type "list", data := .seq vs.toArray }) (hr : Room k callerA)
    (F : ∀ base : Heap, K.In base → base.Ns mainGlobals mg → FnG P w K mg base (CX P w) k fa fd [x] sp) (hbind : ∀ (s : Shared) (u : Value), BindsTo s fd ⟨[u], []⟩ [(x, u)])
    (hO : Only H) (hok : HOk P w H s1.heap) (only : ∀ b, H b ≠ none → b = a) (notK : H a ≠ none → K.lookup a = none) (hsp : sp [.ref a] H (fun v _ => v = .bl true) fun _ _ _ => False) :
    codeAny (model P w) callerA (.call (.ref fa) ⟨[.ref a], []⟩) (fun r s' => r = .ok (.ret (.bool true)) ∧ OldK s1.heap s'.heap ∧ s'.os = s1.os ∧ AllBare s'.gens) s1 := by
  have dead : ∀ {b : Addr} {o : Obj} {es : Array DictEntry} {ep : Nat}, s1.heap.get? b = some o → o.data = .dict es ep → H b = none := fun {b o es ep} e d => by
    cases q : H b with
    | none => rfl
    | some u =>
      obtain rfl := only b (by rw [q]; simp)
      rw [ha] at e
      cases e
      cases (show Data.seq vs.toArray _ = Data.dict es ep from d)
  have nsH : ∀ {b : Addr} {m : Str → Option Value}, s1.heap.Ns b m → (hidT s1.heap H).Ns b m := fun {b m} ⟨o, es, ep, e, d, r⟩ => ⟨o, es, ep, hidT_get e (dead e d), d, r⟩
  have KH : K.In (hidT s1.heap H) := fun b o e => hidT_get (KX b o e) (by
    cases q : H b with
    | none => rfl
    | some u =>
      obtain rfl := only b (by rw [q]; simp)
      rw [notK (by rw [q]; simp)] at e
      cases e)
  have hM : Mod K mg (hidT s1.heap H) := ⟨KH, nsH hns, ⟨mb, nsH hb, hbb⟩, let ⟨mc, h1, h2⟩ := hlim; ⟨mc, nsH h1, h2⟩⟩
  have nil : ∀ b : Addr, b ∉ ([] : List Addr) := fun b z => by simp at z
  have e0 : Env0 P w K mg (hidT s1.heap H) callerA [] s1 H := ⟨rfl, hM, fun b o e => of_hidT e, Nat.le_of_eq (hidT_size _ _), trivial, fun b hb => absurd hb (nil b), hok, .of_eq hg⟩
  refine codeAny_mono ((F _ KH (nsH hns)).run callerA [] s1 H ⟨[.ref a], []⟩ [.ref a] [.ref a] _ _ rfl hr e0 (hbind s1 (.ref a)) (.cons rfl .nil) hsp) fun r s' h => ?_
  cases r with
  | error e =>
    obtain ⟨_, _, _, _, _, _, _, _, _, _, _, _, z⟩ := h
    exact z.elim
  | ok fl =>
    cases fl with
    | next => exact h.elim
    | brk => exact h.elim
    | cont => exact h.elim
    | ret u =>
      obtain ⟨v, H', os, bare, un, hok', r', q⟩ := h
      obtain rfl : v = .bl true := q
      obtain rfl : u = Value.bool true := r'
      refine ⟨rfl, OldK.of_keep fun b o e => ?_, os, bare⟩
      cases q : H b with
      | none => exact un.keep b o e q (nil b) (by simp)
      | some u =>
        rcases hO b with z | ⟨ob, xs, z⟩
        · rw [q] at z; cases z
        · obtain ⟨e1, _⟩ := hok b _ z
          obtain ⟨e2, _⟩ := hok' b _ (un.frzs b ob _ z)
          rw [e] at e1
          cases e1
          exact e2
/-- the script's own heap -/
def scrH (a : Addr) (o : Obj) (ns : List Int) : Hp := fun b => if b = a then some (.frz o (.lst (ns.map V.int))) else none
theorem scrH_at {o : Obj} : scrH a o ns a = some (.frz o (.lst (ns.map V.int))) := if_pos rfl
theorem law_callG (KX : K.In s1.heap) (hk : K.lookup a = none) (hns : s1.heap.Ns mainGlobals mg) (hb : s1.heap.Ns builtinsNs mb) (hbb : ∀ x : Str, x ≠ "__name__" → mb x = bootBuiltins x) (hlim : s1.heap.NoLimit) (hg : s1.gens = #[])
    (ha : s1.heap.get? a = some { cls := .type "list", data := .seq vs.toArray }) (hi : IntsAre vs ns) (hl : ns.length ≤ sizeLine) (hr : Room k callerA)
    (F : ∀ base : Heap, K.In base → base.Ns mainGlobals mg → FnG P w K mg base (CX P w) k fa fd [x] sp) (hbind : ∀ (s : Shared) (u : Value), BindsTo s fd ⟨[u], []⟩ [(x, u)])
    (hsp : ∀ o : Obj, sp [.ref a] (scrH a o ns) (fun v _ => v = .bl true) fun _ _ _ => False) :
    codeAny (model P w) callerA (.call (.ref fa) ⟨[.ref a], []⟩) (fun r s' => r = .ok (.ret (.bool true)) ∧ OldK s1.heap s'.heap ∧ s'.os = s1.os ∧ AllBare s'.gens) s1 := by
  have rv := vals_ints hi
  have cs : ∀ b, b = a ∨ scrH a { cls := .type "list", data := .seq vs.toArray } ns b = none := fun b => (Classical.em (b = a)).imp_right fun n => if_neg n
  have no : Only (scrH a { cls := .type "list", data := .seq vs.toArray } ns) := fun b => by
    rcases cs b with z | z
    · subst z; exact .inr ⟨_, _, scrH_at⟩
    · exact .inl z
  refine law_from KX hns hb hbb hlim hg ha hr F hbind no (fun b u z => ?_) (fun b z => (cs b).elim id fun q => absurd q z) (fun _ => hk) (hsp _)
  rcases cs b with q | q
  · subst q
    rw [scrH_at] at z
    cases z
    exact ⟨ha, by rw [List.length_map]; exact hl, vs, _, rv, ha⟩
  · rw [q] at z; cases z
/-- the goal that the head leaves -/
theorem walk_ofG {l : PySem.W.OpenLaw} {n : Nat} {q : Program} {loose : List Str} {XP : (Str → Option Value) → Heap → Prop} {YP : World → Heap → Prop} {d : DefRec}
    (hn : l.most = some n) (hn2 : n ≤ sizeLine) (hdf : d.params.defaults = []) (hr : Room k callerA)
    (F : ∀ (w : World) (mg : Str → Option Value) (fa a : Addr) (h : Heap) (o : Obj), YP w h → h.Ns mainGlobals mg → mg d.name = some (.ref fa) → h.get? a = some o → o.cls = .type "list" → (∃ xs n, o.data = .seq xs n) →
      ∃ (K : PySem.W.Frag) (fd : FuncData) (sp : Sp), K.In h ∧ K.lookup a = none ∧ (∀ (s : Shared) (u : Value), BindsTo s fd ⟨[u], []⟩ [(x, u)]) ∧
        (∀ (o : Obj) (ns : List Int), ns.length ≤ n → sp [.ref a] (scrH a o ns) (fun v _ => v = .bl true) fun _ _ _ => False) ∧
        ∀ base : Heap, K.In base → base.Ns mainGlobals mg → FnG l.prog w K mg base (CX l.prog w) k fa fd [x] sp) :
    PySem.W.WalkO q loose XP YP l.row.toRowW d [] (fun f vs => PySem.call f vs) := by
  refine Att.attach_call hn hdf fun w s0 s1 mg mb fa o pm cd doc a vs ns G Y ho hd hcd hmg hobj hints hlen hg => ?_
  obtain ⟨K, fd, sp, KX, hk, hb, hsp, hF⟩ := F w mg fa a _ _ Y G.T.g hmg hobj rfl ⟨_, _, rfl⟩
  exact law_callG KX hk G.T.g G.T.b G.T.builtins G.T.nolimit hg hobj hints (Nat.le_trans hlen hn2) hr hF hb (fun o => hsp o ns hlen)
end
section
/-- a fragment without one address -/
def noK (K : PySem.W.Frag) (a : Addr) : PySem.W.Frag := K.filter fun p => p.1 != a
theorem noK_at (K : PySem.W.Frag) (a : Addr) : (noK K a).lookup a = none := by
  unfold noK
  induction K with
  | nil => rfl
  | cons p K ih =>
    obtain ⟨b, o⟩ := p
    rw [List.filter_cons]
    by_cases h : b = a
    · rw [if_neg (by simp [h])]
      exact ih
    · rw [if_pos (by simp [h]), List.lookup_cons, beq_eq_false_iff_ne.mpr (Ne.symm h)]
      exact ih
theorem noK_ne (K : PySem.W.Frag) {a b : Addr} (h : b ≠ a) : (noK K a).lookup b = K.lookup b := by
  unfold noK
  induction K with
  | nil => rfl
  | cons p K ih =>
    obtain ⟨c, o⟩ := p
    rw [List.filter_cons]
    by_cases hc : c = a
    · rw [if_neg (by simp [hc]), ih, List.lookup_cons, beq_eq_false_iff_ne.mpr (by rw [hc]; exact h)]
    · rw [if_pos (by simp [hc]), List.lookup_cons, List.lookup_cons, ih]
theorem noK_in {K : PySem.W.Frag} {h : Heap} (X : K.In h) (a : Addr) : (noK K a).In h := fun b o e => by
  by_cases q : b = a
  · rw [q, noK_at] at e; cases e
  · rw [noK_ne K q] at e; exact X b o e
theorem noK_fun {K : PySem.W.Frag} {h : Heap} {a f : Addr} {o : Obj} {x qual : Str} {params : Arguments} {body : List Stmt} {scope : Scope} {fd : FuncData} (X : K.In h) (ha : h.get? a = some o) (hs : ∃ xs n, o.data = .seq xs n) (F : FunD K x qual params body scope [] [] f fd) : FunD (noK K a) x qual params body scope [] [] f fd := by
  have hd : ∀ vs, o.data ≠ .fields vs := fun vs e => by obtain ⟨xs, n, q⟩ := hs; rw [q] at e; cases e
  have hfn : ∀ g, o.data ≠ .func g := fun g e => by obtain ⟨xs, n, q⟩ := hs; rw [q] at e; cases e
  obtain ⟨oc, od, dV, kV, doc, pm, an, cdv, ct, osl, e1, lk, hcd, hD, hK⟩ := F.ex
  have ne : f ≠ a := fun q => by
    have := X _ _ lk
    rw [q, ha] at this
    cases this
    exact hfn _ rfl
  refine ⟨⟨oc, od, dV, kV, doc, pm, an, cdv, ct, osl, e1, (noK_ne K ne).trans lk, ?_, ?_, .inl rfl⟩, ?_⟩
  · unfold PySem.W.codeIn at hcd ⊢
    cases cdv with
    | ref c =>
      simp only at hcd ⊢
      have nc : c ≠ a := fun q => by
        subst q
        cases lc : K.lookup c with
        | none => rw [lc] at hcd; cases hcd
        | some oc =>
          have := X _ _ lc
          rw [ha] at this
          cases this
          rw [lc] at hcd
          obtain ⟨c1, c2, c3, c4⟩ := o
          cases c3 <;> first | exact hd _ rfl | cases hcd
      rw [noK_ne K nc]
      exact hcd
    | _ => cases hcd
  · rcases hD with ⟨_, q⟩ | ⟨q, _⟩
    · exact .inl ⟨rfl, q⟩
    · exact absurd rfl q
  · unfold PySem.W.keepIn
    simp only
    rw [noK_ne K ne, lk]
/-- the law's promise, from what it computes -/
theorem sp_law {K : PySem.W.Frag} {EK : EKT} {a : Addr} {o : Obj} {ns : List Int} {io : List Nat} {r : List Vl → R (Vl × List Vl)} {ow : Ow} {fs : List Vl} (h : r [(.f, .list (ns.map .int))] = .ok ((ow, .bool true), fs)) :
    spF K EK r 1 io [.ref a] (scrH a o ns) (fun v _ => v = .bl true) fun _ _ _ => False := by
  have ro : Fz K (scrH a o ns) (.ref a) (.list (ns.map .int)) := Fz.lst' (.inr ⟨o, scrH_at⟩) Fz.ints
  refine ⟨rfl, [(.f, .list (ns.map .int))], scrH a o ns, NoA, fun _ _ => False, ⟨fun _ z => z.elim fun _ w => w.elim, Same.refl _, fun _ z => z.elim, fun _ z => z.elim, rfl, fun _ _ => False, fun i x hx => ?_, fun _ _ z => z, fun _ _ _ z => z.elim⟩, ?_⟩
  · cases i with
    | zero =>
      have : x = (.f, .list (ns.map .int)) := by
        have h0 : some (Ow.f, PyData.list (ns.map .int)) = some x := hx
        exact (Option.some.inj h0).symm
      subst this
      exact ⟨_, rfl, ro⟩
    | succ i => cases (show (none : Option Vl) = some x from hx)
  · rw [h]
    intro v H' G' F' T _ rv _
    cases ow with
    | f => cases rv; rfl
    | l => exact rv.elim
    | o => obtain ⟨_, _, _, _, e, _⟩ := rv; cases e
    | b => obtain ⟨_, _, _, _, _, _, _, e, _⟩ := rv; cases e
end
end Ev
end

section
set_option Elab.async false
set_option linter.all false
set_option maxRecDepth 100000
set_option maxHeartbeats 1000000
/-! is None, in, isinstance, any, all, list of a text. -/
namespace Ev
open PySem PySem.Spec PyProof.Rows L2
section
variable {X : Cx} {K : PySem.W.Frag} {EK : EKT} {W : WX} {cl : Cl} {G G' H H' : Hp} {P P' : Nat → Addr → Prop} {F F' T T' : Addr → Prop} {e e' : En} {σ σ' : L2.St} {Pr : List Nat} {D : Ends}
/-! ### is None -/
def noneD : PyData → Bool
  | .none => true
  | _ => false
def fIsN : OpF
  | [d, .none] => some (.f, .bool (noneD d))
  | _ => none
def fNotN : OpF
  | [d, .none] => some (.f, .bool (!noneD d))
  | _ => none
theorem rt_non {v : V} {d : PyData} (r : Rt K H G v d) : decide (v = V.non) = noneD d := by
  rcases r with r | ⟨a, xs, ds, rfl, rfl, _, _⟩
  · cases r <;> simp [noneD]
  · simp [noneD]
theorem opr_isN : OpR X (compareOp .Is) (rD2 X.K fIsN) := fun pins s σ H x y v u Q I rx ry h => by
  obtain ⟨G, ds, r, sg, rt, hf, fin⟩ := h
  obtain ⟨d, d', rfl, r1, r2⟩ := rt.two
  cases d' <;> first | cases hf | skip
  cases r2.none
  exact op_isN pins s σ H _ _ v u Q I rx ry ⟨rfl, by rw [rt_non r1]; exact fin.fg sg fun _ => .bl _⟩
theorem opr_notN : OpR X (compareOp .IsNot) (rD2 X.K fNotN) := fun pins s σ H x y v u Q I rx ry h => by
  obtain ⟨G, ds, r, sg, rt, hf, fin⟩ := h
  obtain ⟨d, d', rfl, r1, r2⟩ := rt.two
  cases d' <;> first | cases hf | skip
  cases r2.none
  exact op_notN pins s σ H _ _ v u Q I rx ry ⟨rfl, by rw [rt_non r1]; exact fin.fg sg fun _ => .bl _⟩
/-! ### in -/
def inD (d : PyData) (ds : List PyData) : Bool := ds.any fun z => PyData.eqv z d
def gIn (ne : Bool) (d : PyData) (ds : List PyData) : Option Vl := if flatD d = true ∧ ds.all flatD = true then some (.f, .bool (if ne then !inD d ds else inD d ds)) else none
def fIn (ne : Bool) : OpF
  | [d, .list ds] => gIn ne d ds
  | [d, .tuple ds] => gIn ne d ds
  | _ => none
theorem inV_eq {x : V} {d : PyData} (f : Fz K G x d) (h : flatD d = true) : ∀ {ds : List PyData} {xs : List V}, FzA K G xs ds → ds.all flatD = true → inV x xs = inD d ds
  | [], xs, z, _ => by
    rw [z.nil_r]
    rfl
  | d' :: ds, xs, z, ha => by
    obtain ⟨v, r, rfl, f', z'⟩ := z.cons_r
    rw [List.all_cons, Bool.and_eq_true] at ha
    have ih := inV_eq f h z' ha.2
    unfold inV inD at *
    rw [List.any_cons, List.any_cons, ih, flat_eq f' f ha.1 h]
theorem rIn_of {neg : Bool} {x y : V} {d : PyData} {ds : List PyData} {r : Vl} {Q : VK} {a : Addr} {xs : List V} (sg : Same G H) (r1 : Rt K H G x d) (hy : y = .ref a) (hs : SqL K H a xs ∨ SqT K H a xs) (z : FzA K G xs ds) (hf : gIn neg d ds = some r) (fin : Fin K H G r Q) : rIn K neg x y H Q := by
  unfold gIn at hf
  by_cases hc : flatD d = true ∧ ds.all flatD = true
  · rw [if_pos hc] at hf
    cases hf
    have fx := r1.fz sg
    refine ⟨a, xs, hy, hs, flat_v fx hc.1, flat_all z hc.2, ?_⟩
    rw [inV_eq fx hc.1 (z.mono sg) hc.2]
    exact fin.fg sg fun _ => .bl _
  · rw [if_neg hc] at hf; cases hf
theorem opr_in : OpR X (compareOp .In) (rD2 X.K (fIn false)) := fun pins s σ H x y v u Q I rx ry h => by
  obtain ⟨G, ds, r, sg, rt, hf, fin⟩ := h
  obtain ⟨d, d', rfl, r1, r2⟩ := rt.two
  cases d' <;> first | cases hf | skip
  · obtain ⟨a, xs, rfl, hq, z⟩ := r2.list sg
    exact op_in_seq pins s σ H _ _ v u Q I rx ry (rIn_of sg r1 rfl (.inl (.inl hq)) z hf fin)
  · obtain ⟨a, xs, rfl, hq, z, _⟩ := r2.tuple sg
    exact op_in_seq pins s σ H _ _ v u Q I rx ry (rIn_of sg r1 rfl (.inr hq.t) z hf fin)
theorem opr_notIn : OpR X (compareOp .NotIn) (rD2 X.K (fIn true)) := fun pins s σ H x y v u Q I rx ry h => by
  obtain ⟨G, ds, r, sg, rt, hf, fin⟩ := h
  obtain ⟨d, d', rfl, r1, r2⟩ := rt.two
  cases d' <;> first | cases hf | skip
  · obtain ⟨a, xs, rfl, hq, z⟩ := r2.list sg
    exact op_notIn_seq pins s σ H _ _ v u Q I rx ry (rIn_of sg r1 rfl (.inl (.inl hq)) z hf fin)
  · obtain ⟨a, xs, rfl, hq, z, _⟩ := r2.tuple sg
    exact op_notIn_seq pins s σ H _ _ v u Q I rx ry (rIn_of sg r1 rfl (.inr hq.t) z hf fin)
/-! ### any, all of a list of bools -/
def boolsD : List PyData → Option (List Bool)
  | [] => some []
  | .bool b :: r => (boolsD r).map (b :: ·)
  | _ => none
theorem boolsD_fz : ∀ {ds : List PyData} {xs : List V} {bs : List Bool}, boolsD ds = some bs → FzA K G xs ds → xs = bs.map V.bl
  | [], xs, bs, h, z => by
    cases h
    exact z.nil_r
  | d :: ds, xs, bs, h, z => by
    obtain ⟨v, r, rfl, f, z'⟩ := z.cons_r
    cases d <;> first | cases h | skip
    rename_i b
    have h0 : (boolsD ds).map (b :: ·) = some bs := h
    cases q : boolsD ds with
    | none => rw [q] at h0; cases h0
    | some zs =>
      rw [q] at h0
      cases h0
      rw [boolsD_fz q z']
      cases f
      rfl
def gAll (d : PyData) : Option Vl := match d with
  | .list ds => (boolsD ds).map fun bs => (.f, .bool (bs.all id))
  | _ => none
def gAny (d : PyData) : Option Vl := match d with
  | .list ds => (boolsD ds).map fun bs => (.f, .bool (bs.any id))
  | _ => none
def fAll : OpF := one gAll
def fAny : OpF := one gAny
theorem cr_allD (hc : X.calm = true) : CallR X (.builtin "all") (rD X.K fAll) := fun pins s σ H xs us Q I r h => by
  obtain ⟨G, v, d, x, rfl, sg, r1, hf, fin⟩ := rD_one h
  cases d <;> first | cases hf | skip
  rename_i ds
  have hf : (boolsD ds).map (fun bs => (Ow.f, PyData.bool (bs.all id))) = some x := hf
  cases q : boolsD ds with
  | none => rw [q] at hf; cases hf
  | some bs =>
    rw [q] at hf
    cases hf
    obtain ⟨a, ys, rfl, hq, z⟩ := r1.list sg
    have e := boolsD_fz q z
    subst e
    exact cr_all hc pins s σ H _ us Q I r ⟨a, bs, rfl, .inl hq, fin.fg sg fun _ => .bl _⟩
theorem cr_anyD (hc : X.calm = true) : CallR X (.builtin "any") (rD X.K fAny) := fun pins s σ H xs us Q I r h => by
  obtain ⟨G, v, d, x, rfl, sg, r1, hf, fin⟩ := rD_one h
  cases d <;> first | cases hf | skip
  rename_i ds
  have hf : (boolsD ds).map (fun bs => (Ow.f, PyData.bool (bs.any id))) = some x := hf
  cases q : boolsD ds with
  | none => rw [q] at hf; cases hf
  | some bs =>
    rw [q] at hf
    cases hf
    obtain ⟨a, ys, rfl, hq, z⟩ := r1.list sg
    have e := boolsD_fz q z
    subst e
    exact cr_any hc pins s σ H _ us Q I r ⟨a, bs, rfl, .inl hq, fin.fg sg fun _ => .bl _⟩
/-! ### list(x) -/
def gListS : PyData → Option Vl
  | .list ds => some (.o, .list ds)
  | .tuple ds => some (.o, .list ds)
  | .str z => if z.cps.toList.length ≤ sizeLine then some (.o, .list (z.cps.toList.map chD)) else none
  | _ => none
def fListS : OpF := one gListS
theorem vals_signs {z : Str} {acc : Array Value} (h : ItemsOf (SignAt z) acc z.cps.size) : Vals (z.cps.toList.map fun c => V.str ⟨#[c]⟩) acc.toList := by
  obtain ⟨hl, hi⟩ := h
  refine vals_of_at ?_ fun j x u hx hu => ?_
  · rw [List.length_map, Array.length_toList, Array.length_toList, hl]
  · rw [List.getElem?_map] at hx
    have hu' : acc[j]? = some u := by rwa [← Array.getElem?_toList]
    obtain ⟨c, t, h1, h2⟩ := hi j u hu'
    rw [Array.getElem?_toList, h1] at hx
    cases hx
    subst h2
    exact ⟨t, rfl⟩
theorem cr_listS (hc : X.calm = true) : CallR X (.type "list") (rD X.K fListS) := fun pins s σ H xs us Q I r h => by
  obtain ⟨G, v, d, x, rfl, sg, r1, hf, fin⟩ := rD_one h
  cases d <;> first | cases hf | skip
  · rename_i z
    have hf : (if z.cps.toList.length ≤ sizeLine then some (Ow.o, PyData.list (z.cps.toList.map chD)) else none) = some x := hf
    by_cases hz : z.cps.toList.length ≤ sizeLine
    · rw [if_pos hz] at hf
      cases hf
      obtain ⟨rfl, ok⟩ := r1.str
      obtain ⟨u, rfl, rx⟩ := vals1 r
      obtain ⟨t, rfl⟩ := rx
      refine call_list_str (I.ok.hd hc) z t (fun h' tk acc' c' kp e hi => ?_) (by rw [← Array.length_toList]; exact hz)
      have hv := vals_signs hi
      exact ⟨.ref s.heap.objs.size, _, I.laid (t' := tk) kp (Nat.le_refl _) (show ObjOk X.prog X.w _ h' _ (.lst (z.cps.toList.map fun c => V.str ⟨#[c]⟩)) from ⟨by rw [List.length_map]; exact hz, acc'.toList, c', hv, by simpa using e⟩), rfl, fin.lst sg (chars_fz ok) _ (I.hok.fresh (Nat.le_refl _))⟩
    · rw [if_neg hz] at hf; cases hf
  · obtain ⟨p, xs, rfl, hq, z⟩ := r1.list sg
    exact call_list_of pins s σ H _ us Q I r ⟨p, xs, rfl, .inl (.inl hq), fin.lst sg z⟩
  · obtain ⟨p, xs, rfl, hq, z, fz⟩ := r1.tuple sg
    exact call_list_of pins s σ H _ us Q I r ⟨p, xs, rfl, .inr hq.t, fin.lst sg z⟩
/-! ### isinstance -/
def tyD : PyData → String
  | .none => "NoneType"
  | .bool _ => "bool"
  | .int _ => "int"
  | .str _ => "str"
  | .list _ => "list"
  | .tuple _ => "tuple"
  | .dict _ => "dict"
def fIsi (T : String) : OpF := one fun d => (kitB (tyD d) T).map fun b => (.f, .bool b)
theorem tyx_of {v : V} {d : PyData} (sg : Same G H) (r : Rt K H G v d) : TyX K H v (.type (tyD d)) := by
  have f := r.fz sg
  cases f with
  | non => exact .base .non
  | bl b => exact .base (.bl b)
  | int i => exact .base (.int i)
  | str x _ => exact .base (.str x)
  | lst hr _ _ =>
    rcases hr with h | ⟨o, h⟩
    · exact .base (.lst h)
    · exact .base (.frz h)
  | tup hr _ _ =>
    rcases hr with ⟨o, h, _⟩ | ⟨o, its, n, h1, h2, _⟩
    · exact .fTuple h
    · exact .kTuple h1 h2
theorem x_isi {ea : Expr} {a : Ar} {T : String} {x : Str} (hm : X.mg "isinstance" = none) (hmT : X.mg x = none) (hvT : bootBuiltins x = some (.type T)) (ha : XR X EK cl ea a) (hg : Gl X "isinstance" := by rfl) (hgT : Gl X x := by rfl) (hn : x ≠ "__name__" := by decide) (hd : (x == ("__debug__" : Str)) = false := by decide)
    (hs : starEach [ea, .Name x p2] X.env = (false, eval ea X.env) :: starEach [.Name x p2] X.env := by rfl) (hs2 : starEach [.Name x p2] X.env = (false, eval (.Name x p2) X.env) :: starEach [] X.env := by rfl) (hpl : (backTo pos (starEach [.Name x p2] X.env)).any (·.1) = false := by rfl) :
    XE X EK cl (.Call (.Name "isinstance" p) [ea, .Name x p2] [] pos) (cOp (fIsi T) [a]) := by
  refine (pe_callB call_isi hg hm boot_isinstance (pa_cons ha (pa_cons (pe_bltn (v := .ty T) hgT hmT hvT rfl hn hd) pa_nil hs2) hs) (by decide) (by decide) hs hpl).imp fun σ H Q h => ?_
  refine rd1.imp (te_D1 h) fun x H1 q => ?_
  obtain ⟨G, v, d, r, e, sg, rt, hf, fin⟩ := rD_one q
  cases e
  have hf : (kitB (tyD d) T).map (fun b => (Ow.f, PyData.bool b)) = some r := hf
  cases qk : kitB (tyD d) T with
  | none => rw [qk] at hf; cases hf
  | some b =>
    rw [qk] at hf
    cases hf
    exact ⟨_, _, _, _, b, rfl, .ty T, tyx_of sg rt, kit_ty qk, fin.fg sg fun _ => .bl _⟩
theorem xt_isi {ea : Expr} {a : Ar} {T : String} {x : Str} (hm : X.mg "isinstance" = none) (hmT : X.mg x = none) (hvT : bootBuiltins x = some (.type T)) (ha : XR X EK cl ea a) (hg : Gl X "isinstance" := by rfl) (hgT : Gl X x := by rfl) (hn : x ≠ "__name__" := by decide) (hd : (x == ("__debug__" : Str)) = false := by decide)
    (hs : starEach [ea, .Name x p2] X.env = (false, eval ea X.env) :: starEach [.Name x p2] X.env := by rfl) (hs2 : starEach [.Name x p2] X.env = (false, eval (.Name x p2) X.env) :: starEach [] X.env := by rfl) (hpl : (backTo pos (starEach [.Name x p2] X.env)).any (·.1) = false := by rfl) :
    XT X EK cl (.Call (.Name "isinstance" p) [ea, .Name x p2] [] pos) (ctE (.v (cOp (fIsi T) [a]))) := xt_e (x_v (x_isi hm hmT hvT ha hg hgT hn hd hs hs2 hpl))
/-! ### reversed(x), walked -/
def itRvL : List PyData → Option (List PyData)
  | [.list ds] => some ds.reverse
  | _ => none
def iRvL (K : PySem.W.Frag) : List V → Hp → (L2.It → Hp → Prop) → Prop := fun vs H R => ∃ (a : Addr) (xs : List V), vs = [.ref a] ∧ SqL K H a xs ∧ R (Itv K a xs.length) H
theorem rtn_list {S : List Nat} {v : V} {ds : List PyData} (sub : Same G H) (r : RtN K H G S e σ v (.list ds)) : ∃ (a : Addr) (xs : List V), v = .ref a ∧ SqL K H a xs ∧ FzA K G xs ds ∧
    ∀ F1 H2 G2 F2 T2, (∀ i ∈ S, ∀ x a, gt e i = some x → x.1 = .o ∨ x.1 = .l → σ[i]? = some (some (.ref a)) → ¬ F1 a) → Stp H G F1 H2 G2 F2 T2 → Same G2 H2 → SqL K H2 a xs := by
  rcases r with r | ⟨i, x, a, xs, ds', h1, h2, h3, h4, rfl, e5, h7, h8⟩
  · cases r with
    | @lst a xs ds' hr hl hh => exact ⟨a, xs, rfl, .inl (Rd.same sub hr), ⟨hl, hh⟩, fun F1 H2 G2 F2 T2 _ s sb => .inl (Rd.same sb (Rd.same s.sg hr))⟩
  · cases e5
    exact ⟨a, xs, rfl, .inl (.inl h7), h8, fun F1 H2 G2 F2 T2 hn s sb => .inl (.inl (s.fr a _ (hn i h1 x a h2 h3 h4) h7))⟩
theorem its_rev : ItS K (iRvL K) itRvL false := by
  intro H G as e σ vs ds xs R sub r hf hR
  cases r with
  | nil => cases hf
  | @cons v d vs ds r rs =>
    cases rs with
    | cons _ _ => cases d <;> cases hf
    | nil =>
      cases d <;> first | cases hf | skip
      rename_i l
      obtain ⟨a, ys, rfl, hs, z, st⟩ := rtn_list sub r
      refine ⟨a, ys, rfl, hs, hR _ (fun H2 => SqL K H2 a ys) (fun i H x H' => H' = H ∧ ys[ys.length - 1 - i]? = some x) ⟨?_, fun F1 H2 G2 F2 T2 a b c => st F1 H2 G2 F2 T2 a b c, fun i H2 w H3 hi y => ?_⟩⟩
      · rw [List.length_reverse, ← z.len]
        exact walk_rev
      · obtain ⟨rfl, hy⟩ := y
        obtain ⟨d', hd', f⟩ := z.get' hy
        rw [List.length_reverse] at hi
        exact .inl ⟨rfl, d', by rw [List.getElem?_reverse hi, ← z.len]; exact hd', f⟩
theorem xi_rev {tg ea : Expr} {x : Ar} (hm : X.mg "reversed" = none) (ha : XA X EK cl [ea] [x]) (hg : Gl X "reversed" := by rfl) (hs : starEach [ea] X.env = [(false, eval ea X.env)] := by rfl) : XI X EK cl tg (.Call (.Name "reversed" p) [ea] [] pos) ⟨[x], itRvL⟩ false :=
  PI.imp (pi_reversed hg hm ha hs) fun _ _ _ w => rdI_of (it := ⟨[x], itRvL⟩) its_rev w
end
end Ev
end

section
set_option Elab.async false
set_option linter.all false
set_option maxRecDepth 100000
set_option maxHeartbeats 1000000
/-! Written by gen.py: the functions of the law by combinators, and that the text does so. -/
namespace G
open PySem PySem.Spec PyProof.Rows L2 Ev
abbrev pw : Program := PySem.Challenge.pw_shortlytold_k51_whole_backward_lookups_k
def top (i : Nat) : Stmt := pw.main.body.getD i (.Pass ⟨0, 0, 0, 0⟩)
/-- sign_places(word); slots 0:word 1:signs 2:tail 3:place -/
def c0 : CS := (cSq (cAsg 1 (cOp fAdd [.n 0, .v (cK (.str "."))]))
  (cRet (cOp fTuple [.v (cLC ⟨[.v (cOp fSorted [.v (cLC ⟨[.v (cOp fLen [.n 1])], itR1⟩ (.n 3) [3] ctYes (cTup [(cOp fSlA [.n 1, .v (cInt (cVar 3))]), (cVar 3)]))])], itV⟩ (.t [(.n 2), (.n 3)]) [2, 3] ctYes (cVar 3))])))
def f0 : Fn := ⟨1, 4, [], noEx c0⟩
/-- last_letters(word); slots 0:word 1:signs 2:place -/
def c1 : CS := (cSq (cAsg 1 (cOp fAdd [.n 0, .v (cK (.str "."))]))
  (cRet (cMeth isStr fJoin (.v (cK (.str ""))) [.v (cLC ⟨[.v (cCall 0 [] [.v (cVar 0)])], itV⟩ (.n 2) [2] ctYes (cOp fIx [.n 1, .v (cOp fSub [.n 2, .v (cK (.int 1))])]))])))
def f1 : Fn := ⟨1, 3, [], noEx c1⟩
/-- steps_of(signs); slots 0:signs 1:found 2:row 3:sign 4:place -/
def c2 : CS := (cSq (cAsg 1 (cOp fMul [.v (cLst [(cK (.int 0))]), .v (cOp fLen [.n 0])]))
  (cSq (cFor ⟨[.v (cOp fSorted [.v (cLC ⟨[.n 0], itE⟩ (.t [(.n 4), (.n 3)]) [4, 3] ctYes (cTup [(cVar 3), (cVar 4)]))])], itE⟩ (.t [(.n 2), (.t [(.n 3), (.n 4)])]) (cSet seL 1 (.n 4) (cVar 2)))
  (cRet (cOp fTuple [.n 1]))))
def f2 : Fn := ⟨1, 5, [], noEx c2⟩
/-- circle_from(steps, place); slots 0:steps 1:place 2:found 3:turn -/
def c3 : CS := (cSq (cAsg 2 (cLst [(cVar 1)]))
  (cSq (cFor ⟨[.v (cOp fLen [.n 0])], itR1⟩ (.n 3) (cSq (cIf (ctB (cOp (fEqM false) [.v (cOp fIx [.n 0, .v (cOp fIx [.n 2, .v (cOp fNeg [.v (cK (.int 1))])])]), .n 1])) cBk cNx)
  (cDo (cMut muApp 2 [.v (cOp fIx [.n 0, .v (cOp fIx [.n 2, .v (cOp fNeg [.v (cK (.int 1))])])])]))))
  (cRet (cOp fTuple [.n 2]))))
def f3 : Fn := ⟨2, 4, [], noEx c3⟩
/-- back_rows(lasts); slots 0:lasts -/
def c4 : CS := (cRet (cCall 3 [] [.v (cCall 2 [] [.v (cVar 0)]), .v (cK (.int 0))]))
def f4 : Fn := ⟨1, 1, [], noEx c4⟩
/-- word_back(lasts); slots 0:lasts 1:row -/
def c5 : CS := (cRet (cOp (fReplC "." "") [.v (cOp fRev [.v (cMeth isStr fJoin (.v (cK (.str ""))) [.v (cLC ⟨[.v (cCall 4 [] [.v (cVar 0)])], itV⟩ (.n 1) [1] ctYes (cOp fIx [.n 0, .n 1]))])])]))
def f5 : Fn := ⟨1, 2, [], noEx c5⟩
/-- less_signs(lasts, letter); slots 0:lasts 1:letter 2:sign -/
def c6 : CS := (cRet (cOp fLen [.v (cLC ⟨[.n 0], itV⟩ (.n 2) [2] (ctB (cOp fLt [.n 2, .n 1])) (cVar 2))]))
def f6 : Fn := ⟨2, 3, [], noEx c6⟩
/-- lookup_ranges(lasts, part); slots 0:lasts 1:part 2:low 3:high 4:found 5:letter 6:less -/
def c7 : CS := (cSq (cPar [2, 3] [(cK (.int 0)), (cOp fLen [.n 0])])
  (cSq (cAsg 4 (cLst [(cTup [(cVar 2), (cVar 3)])]))
  (cSq (cFor ⟨[.v (cOp fRev [.n 1])], itV⟩ (.n 5) (cSq (cAsg 6 (cCall 6 [] [.v (cVar 0), .v (cVar 5)]))
  (cSq (cPar [2, 3] [(cOp fAdd [.n 6, .v (cMeth isStr fCount (.v (cOp fSlB [.n 0, .v (cInt (cVar 2))])) [.n 5])]), (cOp fAdd [.n 6, .v (cMeth isStr fCount (.v (cOp fSlB [.n 0, .v (cInt (cVar 3))])) [.n 5])])])
  (cDo (cMut muApp 4 [.v (cTup [(cVar 2), (cVar 3)])])))))
  (cRet (cOp fTuple [.n 4])))))
def f7 : Fn := ⟨2, 7, [], noEx c7⟩
/-- part_count(lasts, part); slots 0:lasts 1:part 2:low 3:high -/
def c8 : CS := (cSq (cUnp (.t [(.n 2), (.n 3)]) (cOp fIx [.v (cCall 7 [] [.v (cVar 0), .v (cVar 1)]), .v (cOp fNeg [.v (cK (.int 1))])]))
  (cRet (cOp fSub [.n 3, .n 2])))
def f8 : Fn := ⟨2, 4, [], noEx c8⟩
/-- part_places(lasts, part); slots 0:lasts 1:part 2:low 3:high -/
def c9 : CS := (cSq (cUnp (.t [(.n 2), (.n 3)]) (cOp fIx [.v (cCall 7 [] [.v (cVar 0), .v (cVar 1)]), .v (cOp fNeg [.v (cK (.int 1))])]))
  (cRet (cOp fTuple [.v (cOp fSorted [.v (cOp fSlAB [.v (cCall 0 [] [.v (cCall 5 [] [.v (cVar 0)])]), .v (cInt (cVar 2)), .v (cInt (cVar 3))])])])))
def f9 : Fn := ⟨2, 4, [], noEx c9⟩
/-- letter_ranks(lasts, letter); slots 0:lasts 1:letter 2:i -/
def c10 : CS := (cRet (cOp fTuple [.v (cLC ⟨[.v (cOp fAdd [.v (cOp fLen [.n 0]), .v (cK (.int 1))])], itR1⟩ (.n 2) [2] ctYes (cMeth isStr fCount (.v (cOp fSlB [.n 0, .v (cInt (cVar 2))])) [.n 1]))]))
def f10 : Fn := ⟨2, 3, [], noEx c10⟩
/-- kept_ends(lasts, part); slots 0:lasts 1:part 2:found 3:low 4:high -/
def c11 : CS := (cSq (cAsg 2 (cLst []))
  (cSq (cFor ⟨[.v (cCall 7 [] [.v (cVar 0), .v (cVar 1)])], itV⟩ (.t [(.n 3), (.n 4)]) (cSq (cIf (ctB (cOp fGe [.n 3, .n 4])) cBk cNx)
  (cDo (cMut muApp 2 [.v (cVar 4)]))))
  (cMov 2)))
def f11 : Fn := ⟨2, 5, [], noEx c11⟩
/-- kept_places(word, part); slots 0:word 1:part 2:places 3:high -/
def c12 : CS := (cSq (cAsg 2 (cCall 0 [] [.v (cVar 0)]))
  (cRet (cOp fTuple [.v (cLC ⟨[.v (cCall 11 [] [.v (cCall 1 [] [.v (cVar 0)]), .v (cVar 1)])], itV⟩ (.n 3) [3] ctYes (cOp fIx [.n 2, .v (cOp fSub [.n 3, .v (cK (.int 1))])]))])))
def f12 : Fn := ⟨2, 4, [], noEx c12⟩
/-- kept_moves(word, part); slots 0:word 1:part 2:lasts 3:ends 4:i 5:high -/
def c13 : CS := (cSq (cAsg 2 (cCall 1 [] [.v (cVar 0)]))
  (cSq (cAsg 3 (cOp fSlB [.v (cCall 11 [] [.v (cVar 2), .v (cVar 1)]), .v (cInt (cOp fNeg [.v (cK (.int 1))]))]))
  (cRet (cOp fTuple [.v (cLC ⟨[.n 3], itE⟩ (.t [(.n 4), (.n 5)]) [4, 5] ctYes (cOp (fEqM false) [.v (cOp fIx [.n 2, .v (cOp fSub [.n 5, .v (cK (.int 1))])]), .v (cOp fIx [.n 1, .v (cOp fSub [.v (cOp fSub [.v (cOp fLen [.n 1]), .v (cK (.int 1))]), .n 4])])]))]))))
def f13 : Fn := ⟨2, 6, [], noEx c13⟩
/-- end_lot(word); slots 0:word 1:lasts 2:places 3:row 4:rows -/
def c14 : CS := (cSq (cUnp (.t [(.n 1), (.n 2)]) (cTup [(cCall 1 [] [.v (cVar 0)]), (cCall 0 [] [.v (cVar 0)])]))
  (cSq (cAsg 4 (cLC ⟨[.v (cOp fLen [.n 1])], itR1⟩ (.n 3) [3] (ctOr (ctB (cOp (fEqM false) [.v (cOp fAdd [.n 3, .v (cK (.int 1))]), .v (cOp fLen [.n 1])])) (ctB (cOp (fEqM true) [.v (cOp fIx [.n 1, .v (cOp fAdd [.n 3, .v (cK (.int 1))])]), .v (cOp fIx [.n 1, .n 3])]))) (cVar 3)))
  (cRet (cOp fTuple [.v (cOp fSorted [.v (cLC ⟨[.n 4], itV⟩ (.n 3) [3] (ctB (cOp (fEqM true) [.v (cOp fIx [.n 1, .n 3]), .v (cK (.str "."))])) (cOp fSub [.v (cOp fIx [.n 2, .n 3]), .v (cK (.int 1))]))])]))))
def f14 : Fn := ⟨1, 5, [], noEx c14⟩
/-- _law_bag(script); slots 0:script 1:c 2:some 3:m -/
def c15 : CS := (cSq (cAsg 2 (cLC ⟨[.v (cOp fSlB [.n 0, .v (cInt (cK (.int 63)))])], itV⟩ (.n 1) [1] ctYes (cOp fMod [.v (cOp fInt [.v (cOp fAbs [.n 1])]), .v (cOp fShl [.v (cK (.int 1)), .v (cK (.int 600))])])))
  (cSq (cAsg 3 (cOp fAdd [.v (cK (.int 2468)), .v (cOp fLen [.n 2])]))
  (cSq (cFor ⟨[.n 2], itV⟩ (.n 1) (cAsg 3 (cOp fMod [.v (cOp fInt [.v (cOp fAdd [.v (cOp fAdd [.v (cOp fMul [.n 3, .v (cK (.int 48271))]), .v (cOp fMod [.v (cOp fInt [.n 1]), .v (cK (.int 2147483629))])]), .v (cK (.int 7))])]), .v (cK (.int 2147483647))])))
  (cRet (cLst [(cLC ⟨[.v (cOp fListS [.n 2])], itRvL⟩ (.n 1) [1] (ctB (cOp fGt [.n 1, .v (cOp fPow [.v (cK (.int 10)), .v (cK (.int 9))])])) (cVar 1)), (cK (.int 0)), (cVar 3)])))))
def f15 : Fn := ⟨1, 4, [], noEx c15⟩
/-- _law_draw(bag, below); slots 0:bag 1:below 2:x -/
def c16 : CS := (cSq (cIf (ctAnd (ctB (cOp (fEqM false) [.v (cIxN fIx 0 1), .v (cK (.int 0))])) (ctB (cIxNil (fEqM true) fIx 0 true))) (cSet seL 0 (.v (cK (.int 1))) (cPop0 0)) cNx)
  (cSq (cIf (ctB (cOp fGt [.v (cIxN fIx 0 1), .v (cK (.int 0))])) (cSq (cAsg 2 (cOp fMod [.v (cOp fInt [.v (cIxN fIx 0 1)]), .n 1]))
  (cSq (cSet seL 0 (.v (cK (.int 1))) (cOp fFdiv [.v (cIxN fIx 0 1), .n 1]))
  (cMov 2))) cNx)
  (cSq (cSet seL 0 (.v (cK (.int 2))) (cOp fMod [.v (cOp fInt [.v (cOp fAdd [.v (cOp fMul [.v (cIxN fIx 0 2), .v (cK (.int 48271))]), .v (cK (.int 11))])]), .v (cK (.int 2147483647))]))
  (cRet (cOp fMod [.v (cOp fInt [.v (cOp fFdiv [.v (cOp fMod [.v (cOp fInt [.v (cOp fMul [.v (cIxN fIx 0 2), .v (cIxN fIx 0 2)])]), .v (cK (.int 2147483629))]), .v (cK (.int 7))])]), .n 1])))))
def f16 : Fn := ⟨2, 3, [0], noEx c16⟩
/-- _law_pick(bag, some); slots 0:bag 1:some -/
def c17 : CS := (cRet (cOp fIx [.n 1, .v (cCall 16 [(0, 0)] [.n 0, .v (cOp fLen [.n 1])])]))
def f17 : Fn := ⟨2, 2, [0], noEx c17⟩
/-- _law_same(told, due); slots 0:told 1:due 2:x 3:y -/
def c18 : CS := (cSq (cIf (ctB (cOp fIsN [.n 1, .v (cK .none)])) (cRet (cOp fIsN [.n 0, .v (cK .none)])) cNx)
  (cSq (cIf (ctE (.v (cOp (fIsi "bool") [.n 1]))) (cRet (cAnd (cOp (fIsi "bool") [.n 0]) (cOp (fEqM false) [.n 0, .n 1]))) cNx)
  (cSq (cIf (ctE (.v (cOp (fIsi "int") [.n 1]))) (cRet (cAnd (cOp (fIsi "int") [.n 0]) (cAnd (cNot (.v (cOp (fIsi "bool") [.n 0]))) (cOp (fEqM false) [.n 0, .n 1])))) cNx)
  (cSq (cIf (ctE (.v (cOp (fIsi "str") [.n 1]))) (cRet (cAnd (cOp (fIsi "str") [.n 0]) (cOp (fEqM false) [.n 0, .n 1]))) cNx)
  (cSq (cIf (ctOr (ctNot (ctE (.v (cOp (fIsi "tuple") [.n 0])))) (ctB (cOp (fEqM true) [.v (cOp fLen [.n 0]), .v (cOp fLen [.n 1])]))) (cRet (cK (.bool false))) cNx)
  (cRet (cOp fAll [.v (cLC ⟨[.n 0, .n 1], itZ⟩ (.t [(.n 2), (.n 3)]) [2, 3] ctYes (cCall 18 [] [.v (cVar 2), .v (cVar 3)]))])))))))
def f18 : Fn := ⟨2, 4, [], noEx c18⟩
/-- _law_ints(told, due); slots 0:told 1:due 2:x -/
def c19 : CS := (cSq (cIf (ctOr (ctNot (ctE (.v (cOp (fIsi "tuple") [.n 0])))) (ctB (cOp (fEqM true) [.v (cOp fLen [.n 0]), .v (cOp fLen [.n 1])]))) (cRet (cK (.bool false))) cNx)
  (cRet (cAnd (cOp fAll [.v (cLC ⟨[.n 0], itV⟩ (.n 2) [2] ctYes (cAnd (cOp (fIsi "int") [.n 2]) (cNot (.v (cOp (fIsi "bool") [.n 2])))))]) (cOp (fEqM false) [.n 0, .n 1]))))
def f19 : Fn := ⟨2, 3, [], noEx c19⟩
/-- _law_word(bag); slots 0:bag 1:long 2:some 3:way 4:k 5:root 6:turn 7:f 8:x 9:y 10:text -/
def c20 : CS := (cSq (cAsg 1 (cCall 17 [(0, 0)] [.n 0, .v (cLst [(cK (.int 60)), (cK (.int 60)), (cK (.int 59)), (cCall 16 [(0, 0)] [.n 0, .v (cK (.int 14))]), (cCall 16 [(0, 0)] [.n 0, .v (cK (.int 61))]), (cOp fSub [.v (cOp fSub [.v (cK (.int 61)), .v (cK (.int 1))]), .v (cCall 16 [(0, 0)] [.n 0, .v (cK (.int 20))])])])]))
  (cSq (cUnp (.t [(.n 2), (.n 3)]) (cTup [(cCall 17 [(0, 0)] [.n 0, .v (cLst [(cK (.str "ab")), (cK (.str "ab")), (cK (.str "abc")), (cK (.str "abcd")), (cK (.str "bd")), (cK (.str "cd")), (cK (.str "a")), (cK (.str "acd"))])]), (cCall 16 [(0, 0)] [.n 0, .v (cK (.int 6))])]))
  (cSq (cAsg 5 (cMeth isStr fJoin (.v (cK (.str ""))) [.v (cLC ⟨[.v (cIfE (ctB (cOp (fEqM false) [.n 3, .v (cK (.int 0))])) (cVar 1) (cOp fAdd [.v (cK (.int 1)), .v (cCall 16 [(0, 0)] [.n 0, .v (cK (.int 9))])]))], itR1⟩ (.n 4) [4] ctYes (cCall 17 [(0, 0)] [.n 0, .v (cVar 2)]))]))
  (cSq (cIf (ctB (cOp (fEqM false) [.n 3, .v (cK (.int 1))])) (cFor ⟨[.v (cK (.int 10))], itR1⟩ (.n 6) (cSq (cAsg 7 (cCall 16 [(0, 0)] [.n 0, .v (cOp fLen [.n 5])]))
  (cAsg 5 (cOp fAdd [.v (cOp fAdd [.n 5, .v (cOp fSlAB [.n 5, .v (cInt (cVar 7)), .v (cInt (cOp fAdd [.v (cOp fAdd [.n 7, .v (cK (.int 1))]), .v (cCall 16 [(0, 0)] [.n 0, .v (cK (.int 12))])]))])]), .v (cCall 17 [(0, 0)] [.n 0, .v (cVar 2)])])))) cNx)
  (cSq (cIf (ctB (cOp (fEqM false) [.n 3, .v (cK (.int 2))])) (cSq (cPar [8, 9] [(cVar 5), (cCall 17 [(0, 0)] [.n 0, .v (cVar 2)])])
  (cSq (cFor ⟨[.v (cK (.int 6))], itR1⟩ (.n 6) (cPar [8, 9] [(cOp fAdd [.n 8, .n 9]), (cVar 8)]))
  (cAsg 5 (cVar 8)))) cNx)
  (cSq (cAsg 10 (cOp fSlB [.v (cOp fMul [.n 5, .v (cK (.int 60))]), .v (cInt (cVar 1))]))
  (cSq (cIf (ctAnd (ctB (cOp (fEqM false) [.n 3, .v (cK (.int 3))])) (ctB (cOp fGt [.n 1, .v (cK (.int 0))]))) (cSq (cAsg 4 (cCall 16 [(0, 0)] [.n 0, .v (cVar 1)]))
  (cAsg 10 (cOp fAdd [.v (cOp fAdd [.v (cOp fSlB [.n 10, .v (cInt (cVar 4))]), .v (cCall 17 [(0, 0)] [.n 0, .v (cK (.str "abcd"))])]), .v (cOp fSlA [.n 10, .v (cInt (cOp fAdd [.n 4, .v (cK (.int 1))]))])]))) cNx)
  (cMov 10))))))))
def f20 : Fn := ⟨1, 11, [0], noEx c20⟩
/-- _law_rows(word); slots 0:word 1:n 2:t 3:k -/
def c21 : CS := (cSq (cAsg 1 (cOp fLen [.n 0]))
  (cRet (cLC ⟨[.v (cOp fSorted [.v (cLC ⟨[.v (cOp fAdd [.n 1, .v (cK (.int 1))])], itR1⟩ (.n 3) [3] ctYes (cOp fSlA [.n 0, .v (cInt (cVar 3))]))])], itV⟩ (.n 2) [2] ctYes (cOp fSub [.n 1, .v (cOp fLen [.n 2])]))))
def f21 : Fn := ⟨1, 4, [], noEx c21⟩
/-- _law_lasts(word, rows); slots 0:word 1:rows 2:p -/
def c22 : CS := (cRet (cMeth isStr fJoin (.v (cK (.str ""))) [.v (cLC ⟨[.n 1], itV⟩ (.n 2) [2] ctYes (cIfE (ctB (cOp (fEqM false) [.n 2, .v (cK (.int 0))])) (cK (.str ".")) (cOp fIx [.n 0, .v (cOp fSub [.n 2, .v (cK (.int 1))])])))]))
def f22 : Fn := ⟨2, 3, [], noEx c22⟩
/-- _law_ranges(lasts, part); slots 0:lasts 1:part 2:low 3:high 4:found 5:s 6:less 7:t -/
def c23 : CS := (cSq (cPar [2, 3, 4] [(cK (.int 0)), (cOp fLen [.n 0]), (cLst [(cTup [(cK (.int 0)), (cOp fLen [.n 0])])])])
  (cSq (cFor ⟨[.v (cOp fListS [.n 1])], itRvL⟩ (.n 5) (cSq (cAsg 6 (cK (.int 0)))
  (cSq (cFor ⟨[.v (cK (.str ".abcd"))], itV⟩ (.n 7) (cAsg 6 (cOp fAdd [.n 6, .v (cIfE (ctB (cOp fLt [.n 7, .n 5])) (cMeth isStr fCount (.n 0) [.n 7]) (cK (.int 0)))])))
  (cSq (cPar [2, 3] [(cOp fAdd [.n 6, .v (cMeth isStr fCount (.v (cOp fSlB [.n 0, .v (cInt (cVar 2))])) [.n 5])]), (cOp fAdd [.n 6, .v (cMeth isStr fCount (.v (cOp fSlB [.n 0, .v (cInt (cVar 3))])) [.n 5])])])
  (cDo (cMut muApp 4 [.v (cTup [(cVar 2), (cVar 3)])]))))))
  (cRet (cOp fTuple [.n 4]))))
def f23 : Fn := ⟨2, 8, [], noEx c23⟩
/-- _law_kept(rows, lasts, part, due); slots 0:rows 1:lasts 2:part 3:due 4:places 5:moves 6:t 7:low 8:high -/
def c24 : CS := (cSq (cPar [4, 5] [(cLst []), (cLst [])])
  (cSq (cFor ⟨[.n 3], itE⟩ (.t [(.n 6), (.t [(.n 7), (.n 8)])]) (cSq (cIf (ctB (cOp fGe [.n 7, .n 8])) cBk cNx)
  (cSq (cIf (ctB (cOp fGt [.n 6, .v (cK (.int 0))])) (cDo (cMut muApp 5 [.v (cOp (fEqM false) [.v (cOp fIx [.n 1, .v (cOp fSub [.v (cOp fIx [.v (cOp fIx [.n 3, .v (cOp fSub [.n 6, .v (cK (.int 1))])]), .v (cK (.int 1))]), .v (cK (.int 1))])]), .v (cOp fIx [.n 2, .v (cOp fSub [.v (cOp fLen [.n 2]), .n 6])])])])) cNx)
  (cDo (cMut muApp 4 [.v (cOp fIx [.n 0, .v (cOp fSub [.n 8, .v (cK (.int 1))])])])))))
  (cRet (cTup [(cOp fTuple [.n 4]), (cOp fTuple [.n 5])]))))
def f24 : Fn := ⟨4, 9, [], noEx c24⟩
/-- _law_ends(rows, lasts); slots 0:rows 1:lasts 2:n 3:k 4:some -/
def c25 : CS := (cSq (cAsg 2 (cOp fLen [.n 0]))
  (cSq (cAsg 4 (cLC ⟨[.n 2], itR1⟩ (.n 3) [3] (ctAnd (ctB (cOp (fEqM true) [.v (cOp fIx [.n 1, .n 3]), .v (cK (.str "."))])) (ctOr (ctB (cOp (fEqM false) [.v (cOp fAdd [.n 3, .v (cK (.int 1))]), .n 2])) (ctB (cOp (fEqM true) [.v (cOp fIx [.n 1, .v (cOp fAdd [.n 3, .v (cK (.int 1))])]), .v (cOp fIx [.n 1, .n 3])])))) (cOp fSub [.v (cOp fIx [.n 0, .n 3]), .v (cK (.int 1))])))
  (cRet (cOp fTuple [.v (cOp fSorted [.n 4])]))))
def f25 : Fn := ⟨2, 5, [], noEx c25⟩
/-- _law_stands(word, part); slots 0:word 1:part 2:k -/
def c26 : CS := (cRet (cOp fTuple [.v (cLC ⟨[.v (cOp fLen [.n 0])], itR1⟩ (.n 2) [2] (ctB (cOp (fEqM false) [.v (cOp fSlAB [.n 0, .v (cInt (cVar 2)), .v (cInt (cOp fAdd [.n 2, .v (cOp fLen [.n 1])]))]), .n 1])) (cVar 2))]))
def f26 : Fn := ⟨2, 3, [], noEx c26⟩
/-- _law_bent(bag, word, turn); slots 0:bag 1:word 2:turn 3:n 4:k 5:f 6:long 7:part 8:s -/
def c27 : CS := (cSq (cAsg 3 (cOp fLen [.n 1]))
  (cSq (cIf (ctOr (ctB (cOp (fEqM false) [.n 3, .v (cK (.int 0))])) (ctB (cOp (fEqM false) [.n 2, .v (cK (.int 7))]))) (cRet (cMeth isStr fJoin (.v (cK (.str ""))) [.v (cLC ⟨[.v (cCall 16 [(0, 0)] [.n 0, .v (cK (.int 5))])], itR1⟩ (.n 4) [4] ctYes (cCall 17 [(0, 0)] [.n 0, .v (cK (.str "abcd"))]))])) cNx)
  (cSq (cAsg 5 (cIfE (ctB (cOp (fEqM false) [.v (cCall 16 [(0, 0)] [.n 0, .v (cK (.int 4))]), .v (cK (.int 0))])) (cK (.int 0)) (cCall 16 [(0, 0)] [.n 0, .v (cVar 3)])))
  (cSq (cAsg 6 (cIfE (ctB (cOp (fEqM false) [.v (cCall 16 [(0, 0)] [.n 0, .v (cK (.int 3))]), .v (cK (.int 0))])) (cOp fSub [.n 3, .n 5]) (cOp fAdd [.v (cK (.int 1)), .v (cCall 16 [(0, 0)] [.n 0, .v (cOp fMin2 [.v (cOp fSub [.n 3, .n 5]), .v (cK (.int 12))])])])))
  (cSq (cAsg 7 (cOp fSlAB [.n 1, .v (cInt (cVar 5)), .v (cInt (cOp fAdd [.n 5, .n 6]))]))
  (cSq (cIf (ctB (cOp fLt [.n 2, .v (cK (.int 3))])) (cSq (cAsg 4 (cOp fIx [.v (cLst [(cK (.int 0)), (cOp fSub [.n 6, .v (cK (.int 1))]), (cCall 16 [(0, 0)] [.n 0, .v (cVar 6)])]), .n 2]))
  (cSq (cAsg 4 (cIfE (ctAnd (ctB (cOp (fEqM false) [.n 2, .v (cK (.int 2))])) (ctAnd (ctB (cOp fGt [.n 6, .v (cK (.int 2))])) (ctB (cOp (fEqM false) [.v (cCall 16 [(0, 0)] [.n 0, .v (cK (.int 2))]), .v (cK (.int 0))])))) (cOp fSub [.n 6, .v (cK (.int 2))]) (cVar 4)))
  (cRet (cOp fAdd [.v (cOp fAdd [.v (cOp fSlB [.n 7, .v (cInt (cVar 4))]), .v (cCall 17 [(0, 0)] [.n 0, .v (cLC ⟨[.v (cK (.str "abcd"))], itV⟩ (.n 8) [8] (ctB (cOp (fEqM true) [.n 8, .v (cOp fIx [.n 7, .n 4])])) (cVar 8))])]), .v (cOp fSlA [.n 7, .v (cInt (cOp fAdd [.n 4, .v (cK (.int 1))]))])])))) cNx)
  (cSq (cIf (ctB (cOp (fEqM false) [.n 2, .v (cK (.int 3))])) (cRet (cOp fSlB [.v (cOp fAdd [.v (cCall 17 [(0, 0)] [.n 0, .v (cK (.str "abcd"))]), .n 7]), .v (cInt (cK (.int 60)))])) cNx)
  (cSq (cIf (ctB (cOp (fEqM false) [.n 2, .v (cK (.int 4))])) (cRet (cOp fSlA [.v (cOp fAdd [.n 7, .v (cCall 17 [(0, 0)] [.n 0, .v (cK (.str "abcd"))])]), .v (cInt (cOp fNeg [.v (cK (.int 60))]))])) cNx)
  (cRet (cIfE (ctB (cOp (fEqM false) [.n 2, .v (cK (.int 5))])) (cVar 7) (cOp fSlB [.v (cOp fMul [.n 7, .v (cK (.int 60))]), .v (cInt (cK (.int 60)))])))))))))))
def f27 : Fn := ⟨3, 9, [0], noEx c27⟩
/-- _law_is_looked_up(word, lasts, part, way); slots 0:word 1:lasts 2:part 3:way 4:due 5:told -/
def c28 : CS := (cSq (cAsg 4 (cCall 23 [] [.v (cVar 1), .v (cVar 2)]))
  (cSq (cAsg 5 (cIfE (ctB (cOp (fEqM false) [.n 3, .v (cK (.int 0))])) (cCall 7 [] [.v (cVar 1), .v (cVar 2)]) (cCallK 7 [0, 1] [(cVar 1), (cVar 2)])))
  (cSq (cIf (ctNot (ctE (.v (cCall 18 [] [.v (cVar 5), .v (cVar 4)])))) (cRet (cK (.bool false))) cNx)
  (cSq (cAsg 5 (cIfE (ctB (cOp (fEqM false) [.n 3, .v (cK (.int 1))])) (cCall 8 [] [.v (cVar 1), .v (cVar 2)]) (cCallK 8 [0, 1] [(cVar 1), (cVar 2)])))
  (cSq (cIf (ctNot (ctE (.v (cCall 18 [] [.v (cVar 5), .v (cOp fSub [.v (cOp fIx [.v (cOp fIx [.n 4, .v (cOp fNeg [.v (cK (.int 1))])]), .v (cK (.int 1))]), .v (cOp fIx [.v (cOp fIx [.n 4, .v (cOp fNeg [.v (cK (.int 1))])]), .v (cK (.int 0))])])])))) (cRet (cK (.bool false))) cNx)
  (cSq (cIf (ctB (cOp (fEqM false) [.n 2, .v (cK (.str ""))])) (cRet (cK (.bool true))) cNx)
  (cSq (cAsg 5 (cIfE (ctB (cOp (fEqM false) [.n 3, .v (cK (.int 0))])) (cCall 9 [] [.v (cVar 1), .v (cVar 2)]) (cCallK 9 [0, 1] [(cVar 1), (cVar 2)])))
  (cRet (cCall 19 [] [.v (cVar 5), .v (cCall 26 [] [.v (cVar 0), .v (cVar 2)])])))))))))
def f28 : Fn := ⟨4, 6, [], noEx c28⟩
/-- _law_is_kept(word, rows, lasts, part, way); slots 0:word 1:rows 2:lasts 3:part 4:way 5:places 6:moves 7:there 8:went 9:ends 10:k 11:is_on 12:some -/
def c29 : CS := (cSq (cUnp (.t [(.n 5), (.n 6)]) (cCall 24 [] [.v (cVar 1), .v (cVar 2), .v (cVar 3), .v (cCall 23 [] [.v (cVar 2), .v (cVar 3)])]))
  (cSq (cAsg 7 (cIfE (ctB (cOp (fEqM false) [.n 4, .v (cK (.int 0))])) (cCall 12 [] [.v (cVar 0), .v (cVar 3)]) (cCallK 12 [0, 1] [(cVar 0), (cVar 3)])))
  (cSq (cAsg 8 (cIfE (ctB (cOp (fEqM false) [.n 4, .v (cK (.int 1))])) (cCall 13 [] [.v (cVar 0), .v (cVar 3)]) (cCallK 13 [0, 1] [(cVar 0), (cVar 3)])))
  (cSq (cIf (ctOr (ctNot (ctE (.v (cCall 19 [] [.v (cVar 7), .v (cVar 5)])))) (ctNot (ctE (.v (cCall 18 [] [.v (cVar 8), .v (cVar 6)]))))) (cRet (cK (.bool false))) cNx)
  (cSq (cAsg 9 (cCall 25 [] [.v (cVar 1), .v (cVar 2)]))
  (cSq (cFor ⟨[.n 8], itE⟩ (.t [(.n 10), (.n 11)]) (cIf (ctOr (ctAnd (ctE (.n 11)) (ctB (cOp (fEqM true) [.v (cOp fIx [.n 7, .v (cOp fAdd [.n 10, .v (cK (.int 1))])]), .v (cOp fSub [.v (cOp fIx [.n 7, .n 10]), .v (cK (.int 1))])]))) (ctAnd (ctNot (ctE (.n 11))) (ctB (cOp (fIn true) [.v (cOp fIx [.n 7, .v (cOp fAdd [.n 10, .v (cK (.int 1))])]), .n 9])))) (cRet (cK (.bool false))) cNx))
  (cSq (cAsg 12 (cCall 26 [] [.v (cVar 0), .v (cVar 3)]))
  (cSq (cIf (ctOr (ctB (cOp (fEqM false) [.n 3, .v (cK (.str ""))])) (ctB (cOp (fEqM false) [.n 12, .v (cTup [])]))) (cRet (cOr (cOp (fEqM false) [.n 3, .v (cK (.str ""))]) (cOp fLe [.v (cOp fLen [.n 7]), .v (cOp fLen [.n 3])]))) cNx)
  (cRet (cAnd (cOp (fEqM false) [.v (cOp fLen [.n 7]), .v (cOp fAdd [.v (cOp fLen [.n 3]), .v (cK (.int 1))])]) (cAnd (cOp (fIn false) [.v (cOp fIx [.n 7, .v (cK (.int 1))]), .n 9]) (cOp (fIn false) [.v (cOp fIx [.n 7, .v (cOp fNeg [.v (cK (.int 1))])]), .n 12]))))))))))))
def f29 : Fn := ⟨5, 13, [], noEx c29⟩
/-- _law_are_ranks_right(bag, lasts); slots 0:bag 1:lasts 2:s 3:due 4:n 5:t 6:told -/
def c30 : CS := (cSq (cFor ⟨[.v (cK (.str "abcd"))], itV⟩ (.n 2) (cSq (cPar [3, 4] [(cLst [(cK (.int 0))]), (cK (.int 0))])
  (cSq (cFor ⟨[.n 1], itV⟩ (.n 5) (cSq (cAsg 4 (cOp fAdd [.n 4, .v (cIfE (ctB (cOp (fEqM false) [.n 5, .n 2])) (cK (.int 1)) (cK (.int 0)))]))
  (cDo (cMut muApp 3 [.v (cVar 4)]))))
  (cSq (cAsg 6 (cIfE (ctB (cOp (fEqM false) [.v (cCall 16 [(0, 0)] [.n 0, .v (cK (.int 2))]), .v (cK (.int 0))])) (cCall 10 [] [.v (cVar 1), .v (cVar 2)]) (cCallK 10 [0, 1] [(cVar 1), (cVar 2)])))
  (cIf (ctNot (ctE (.v (cCall 19 [] [.v (cVar 6), .v (cOp fTuple [.n 3])])))) (cRet (cK (.bool false))) cNx)))))
  (cRet (cK (.bool true))))
def f30 : Fn := ⟨2, 7, [0], noEx c30⟩
/-- _law_are_known_right(); slots 0:lasts 1:told 2:part -/
def c31 : CS := (cSq (cAsg 0 (cK (.str "cd.bbaaaa")))
  (cSq (cAsg 1 (cTup [(cCall 7 [] [.v (cVar 0), .v (cK (.str "aba"))]), (cCall 7 [] [.v (cVar 0), .v (cK (.str "dc"))])]))
  (cSq (cIf (ctNot (ctE (.v (cCall 18 [] [.v (cVar 1), .v (cTup [(cTup [(cTup [(cK (.int 0)), (cK (.int 9))]), (cTup [(cK (.int 1)), (cK (.int 5))]), (cTup [(cK (.int 5)), (cK (.int 7))]), (cTup [(cK (.int 1)), (cK (.int 3))])]), (cTup [(cTup [(cK (.int 0)), (cK (.int 9))]), (cTup [(cK (.int 7)), (cK (.int 8))]), (cTup [(cK (.int 9)), (cK (.int 9))])])])])))) (cRet (cK (.bool false))) cNx)
  (cSq (cAsg 1 (cOp fTuple [.v (cLC ⟨[.v (cTup [(cK (.str "a")), (cK (.str "ab")), (cK (.str "bad")), (cK (.str "cc")), (cK (.str ""))])], itV⟩ (.n 2) [2] ctYes (cCall 8 [] [.v (cVar 0), .v (cVar 2)]))]))
  (cSq (cIf (ctOr (ctNot (ctE (.v (cCall 18 [] [.v (cVar 1), .v (cTup [(cK (.int 4)), (cK (.int 2)), (cK (.int 1)), (cK (.int 0)), (cK (.int 9))])])))) (ctNot (ctE (.v (cCall 18 [] [.v (cCall 9 [] [.v (cVar 0), .v (cK (.str "ab"))]), .v (cTup [(cK (.int 0)), (cK (.int 4))])]))))) (cRet (cK (.bool false))) cNx)
  (cSq (cIf (ctNot (ctE (.v (cCall 18 [] [.v (cTup [(cCall 9 [] [.v (cVar 0), .v (cK (.str "cc"))]), (cCall 10 [] [.v (cVar 0), .v (cK (.str "a"))])]), .v (cTup [(cTup []), (cTup [(cK (.int 0)), (cK (.int 0)), (cK (.int 0)), (cK (.int 0)), (cK (.int 0)), (cK (.int 0)), (cK (.int 1)), (cK (.int 2)), (cK (.int 3)), (cK (.int 4))])])])))) (cRet (cK (.bool false))) cNx)
  (cSq (cAsg 1 (cTup [(cCall 12 [] [.v (cK (.str "abadabac")), .v (cK (.str "aba"))]), (cCall 13 [] [.v (cK (.str "abadabac")), .v (cK (.str "aba"))]), (cCall 12 [] [.v (cK (.str "abadabac")), .v (cK (.str "dab"))])]))
  (cSq (cIf (ctNot (ctE (.v (cCall 18 [] [.v (cVar 1), .v (cTup [(cTup [(cK (.int 3)), (cK (.int 2)), (cK (.int 1)), (cK (.int 0))]), (cTup [(cK (.bool true)), (cK (.bool true)), (cK (.bool true))]), (cTup [(cK (.int 3)), (cK (.int 1)), (cK (.int 0)), (cK (.int 3))])])])))) (cRet (cK (.bool false))) cNx)
  (cSq (cAsg 1 (cTup [(cCall 13 [] [.v (cK (.str "abadabac")), .v (cK (.str "dab"))]), (cCall 12 [] [.v (cK (.str "abadabac")), .v (cK (.str "dc"))]), (cCall 12 [] [.v (cK (.str "")), .v (cK (.str "a"))])]))
  (cRet (cCall 18 [] [.v (cVar 1), .v (cTup [(cTup [(cK (.bool false)), (cK (.bool true)), (cK (.bool false))]), (cTup [(cK (.int 3)), (cK (.int 7))]), (cTup [(cK (.int 0))])])])))))))))))
def f31 : Fn := ⟨0, 3, [], noEx c31⟩
/-- law(script); slots 0:script 1:bag 2:word 3:other 4:many 5:k 6:s 7:rows 8:more 9:lasts 10:later 11:turn 12:part 13:way -/
def c32 : CS := (cSq (cAsg 1 (cCall 15 [] [.v (cVar 0)]))
  (cSq (cAsg 2 (cCall 20 [(1, 0)] [.n 1]))
  (cSq (cPar [3, 4] [(cVar 2), (cOp fLen [.n 2])])
  (cSq (cIf (ctB (cOp fGt [.n 4, .v (cK (.int 0))])) (cSq (cAsg 5 (cCall 17 [(1, 0)] [.n 1, .v (cLst [(cOp fSub [.n 4, .v (cK (.int 1))]), (cCall 16 [(1, 0)] [.n 1, .v (cVar 4)]), (cCall 16 [(1, 0)] [.n 1, .v (cVar 4)])])]))
  (cAsg 3 (cOp fAdd [.v (cOp fAdd [.v (cOp fSlB [.n 2, .v (cInt (cVar 5))]), .v (cCall 17 [(1, 0)] [.n 1, .v (cLC ⟨[.v (cK (.str "abcd"))], itV⟩ (.n 6) [6] (ctB (cOp (fEqM true) [.n 6, .v (cOp fIx [.n 2, .n 5])])) (cVar 6))])]), .v (cOp fSlA [.n 2, .v (cInt (cOp fAdd [.n 5, .v (cK (.int 1))]))])]))) cNx)
  (cSq (cIf (ctNot (ctE (.v (cCall 31 [] [])))) (cRet (cK (.bool false))) cNx)
  (cSq (cPar [7, 8] [(cCall 21 [] [.v (cVar 2)]), (cCall 21 [] [.v (cVar 3)])])
  (cSq (cPar [9, 10] [(cCall 22 [] [.v (cVar 2), .v (cVar 7)]), (cCall 22 [] [.v (cVar 3), .v (cVar 8)])])
  (cSq (cIf (ctOr (ctNot (ctE (.v (cCall 30 [(1, 0)] [.n 1, .v (cVar 9)])))) (ctNot (ctE (.v (cCall 30 [(1, 0)] [.n 1, .v (cVar 10)]))))) (cRet (cK (.bool false))) cNx)
  (cSq (cIf (ctNot (ctE (.v (cCall 19 [] [.v (cCall 14 [] [.v (cVar 2)]), .v (cCall 25 [] [.v (cVar 7), .v (cVar 9)])])))) (cRet (cK (.bool false))) cNx)
  (cSq (cIf (ctNot (ctE (.v (cCall 19 [] [.v (cCallK 14 [0] [(cVar 3)]), .v (cCall 25 [] [.v (cVar 8), .v (cVar 10)])])))) (cRet (cK (.bool false))) cNx)
  (cSq (cFor ⟨[.v (cK (.int 8))], itR1⟩ (.n 11) (cSq (cPar [12, 13] [(cCall 27 [(1, 0)] [.n 1, .v (cVar 2), .v (cVar 11)]), (cCall 16 [(1, 0)] [.n 1, .v (cK (.int 2))])])
  (cSq (cIf (ctNot (ctE (.v (cCall 28 [] [.v (cVar 2), .v (cVar 9), .v (cVar 12), .v (cVar 13)])))) (cRet (cK (.bool false))) cNx)
  (cSq (cIf (ctNot (ctE (.v (cCall 29 [] [.v (cVar 2), .v (cVar 7), .v (cVar 9), .v (cVar 12), .v (cVar 13)])))) (cRet (cK (.bool false))) cNx)
  (cSq (cIf (ctB (cOp (fIn false) [.n 11, .v (cTup [(cK (.int 0)), (cK (.int 2))])])) (cIf (ctOr (ctNot (ctE (.v (cCall 28 [] [.v (cVar 3), .v (cVar 10), .v (cVar 12), .v (cVar 13)])))) (ctNot (ctE (.v (cCall 29 [] [.v (cVar 3), .v (cVar 8), .v (cVar 10), .v (cVar 12), .v (cVar 13)]))))) (cRet (cK (.bool false))) cNx) cNx)
  (cIf (ctB (cOp (fEqM false) [.n 11, .v (cK (.int 5))])) (cSq (cAsg 12 (cOp fSlA [.n 12, .v (cInt (cOp fNeg [.v (cK (.int 7))]))]))
  (cSq (cIf (ctNot (ctE (.v (cCall 28 [] [.v (cVar 2), .v (cVar 9), .v (cVar 12), .v (cOp fSub [.v (cK (.int 1)), .n 13])])))) (cRet (cK (.bool false))) cNx)
  (cSq (cIf (ctNot (ctE (.v (cCall 28 [] [.v (cVar 2), .v (cVar 9), .v (cVar 12), .v (cVar 13)])))) (cRet (cK (.bool false))) cNx)
  (cSq (cIf (ctNot (ctE (.v (cCall 29 [] [.v (cVar 2), .v (cVar 7), .v (cVar 9), .v (cVar 12), .v (cOp fSub [.v (cK (.int 1)), .n 13])])))) (cRet (cK (.bool false))) cNx)
  (cIf (ctNot (ctE (.v (cCall 29 [] [.v (cVar 2), .v (cVar 7), .v (cVar 9), .v (cVar 12), .v (cVar 13)])))) (cRet (cK (.bool false))) cNx))))) cNx))))))
  (cRet (cAnd (cCall 28 [] [.v (cVar 2), .v (cVar 9), .v (cK (.str "")), .v (cK (.int 0))]) (cCall 29 [] [.v (cVar 2), .v (cVar 7), .v (cVar 9), .v (cK (.str "")), .v (cK (.int 1))]))))))))))))))
def f32 : Fn := ⟨1, 14, [], noEx c32⟩
def tab : Nat → Option Fn
  | 0 => some f0
  | 1 => some f1
  | 2 => some f2
  | 3 => some f3
  | 4 => some f4
  | 5 => some f5
  | 6 => some f6
  | 7 => some f7
  | 8 => some f8
  | 9 => some f9
  | 10 => some f10
  | 11 => some f11
  | 12 => some f12
  | 13 => some f13
  | 14 => some f14
  | 15 => some f15
  | 16 => some f16
  | 17 => some f17
  | 18 => some f18
  | 19 => some f19
  | 20 => some f20
  | 21 => some f21
  | 22 => some f22
  | 23 => some f23
  | 24 => some f24
  | 25 => some f25
  | 26 => some f26
  | 27 => some f27
  | 28 => some f28
  | 29 => some f29
  | 30 => some f30
  | 31 => some f31
  | 32 => some f32
  | _ => none
structure Facts (K : PySem.W.Frag) (mg : Str → Option Value) (adr : Nat → Addr) (fds : Nat → FuncData) : Prop where
  F0 : FunD K "sign_places" "sign_places" (defArgs (top 1)) (defBody (top 1)) (defScope (top 1)) [] [] (adr 0) (fds 0)
  g0 : mg "sign_places" = some (.ref (adr 0))
  F1 : FunD K "last_letters" "last_letters" (defArgs (top 2)) (defBody (top 2)) (defScope (top 2)) [] [] (adr 1) (fds 1)
  g1 : mg "last_letters" = some (.ref (adr 1))
  F2 : FunD K "steps_of" "steps_of" (defArgs (top 3)) (defBody (top 3)) (defScope (top 3)) [] [] (adr 2) (fds 2)
  g2 : mg "steps_of" = some (.ref (adr 2))
  F3 : FunD K "circle_from" "circle_from" (defArgs (top 4)) (defBody (top 4)) (defScope (top 4)) [] [] (adr 3) (fds 3)
  g3 : mg "circle_from" = some (.ref (adr 3))
  F4 : FunD K "back_rows" "back_rows" (defArgs (top 6)) (defBody (top 6)) (defScope (top 6)) [] [] (adr 4) (fds 4)
  g4 : mg "back_rows" = some (.ref (adr 4))
  F5 : FunD K "word_back" "word_back" (defArgs (top 7)) (defBody (top 7)) (defScope (top 7)) [] [] (adr 5) (fds 5)
  g5 : mg "word_back" = some (.ref (adr 5))
  F6 : FunD K "less_signs" "less_signs" (defArgs (top 9)) (defBody (top 9)) (defScope (top 9)) [] [] (adr 6) (fds 6)
  g6 : mg "less_signs" = some (.ref (adr 6))
  F7 : FunD K "lookup_ranges" "lookup_ranges" (defArgs (top 10)) (defBody (top 10)) (defScope (top 10)) [] [] (adr 7) (fds 7)
  g7 : mg "lookup_ranges" = some (.ref (adr 7))
  F8 : FunD K "part_count" "part_count" (defArgs (top 11)) (defBody (top 11)) (defScope (top 11)) [] [] (adr 8) (fds 8)
  g8 : mg "part_count" = some (.ref (adr 8))
  F9 : FunD K "part_places" "part_places" (defArgs (top 12)) (defBody (top 12)) (defScope (top 12)) [] [] (adr 9) (fds 9)
  g9 : mg "part_places" = some (.ref (adr 9))
  F10 : FunD K "letter_ranks" "letter_ranks" (defArgs (top 13)) (defBody (top 13)) (defScope (top 13)) [] [] (adr 10) (fds 10)
  g10 : mg "letter_ranks" = some (.ref (adr 10))
  F11 : FunD K "kept_ends" "kept_ends" (defArgs (top 15)) (defBody (top 15)) (defScope (top 15)) [] [] (adr 11) (fds 11)
  g11 : mg "kept_ends" = some (.ref (adr 11))
  F12 : FunD K "kept_places" "kept_places" (defArgs (top 16)) (defBody (top 16)) (defScope (top 16)) [] [] (adr 12) (fds 12)
  g12 : mg "kept_places" = some (.ref (adr 12))
  F13 : FunD K "kept_moves" "kept_moves" (defArgs (top 17)) (defBody (top 17)) (defScope (top 17)) [] [] (adr 13) (fds 13)
  g13 : mg "kept_moves" = some (.ref (adr 13))
  F14 : FunD K "end_lot" "end_lot" (defArgs (top 19)) (defBody (top 19)) (defScope (top 19)) [] [] (adr 14) (fds 14)
  g14 : mg "end_lot" = some (.ref (adr 14))
  F15 : FunD K "_law_bag" "_law_bag" (defArgs (top 21)) (defBody (top 21)) (defScope (top 21)) [] [] (adr 15) (fds 15)
  g15 : mg "_law_bag" = some (.ref (adr 15))
  F16 : FunD K "_law_draw" "_law_draw" (defArgs (top 22)) (defBody (top 22)) (defScope (top 22)) [] [] (adr 16) (fds 16)
  g16 : mg "_law_draw" = some (.ref (adr 16))
  F17 : FunD K "_law_pick" "_law_pick" (defArgs (top 23)) (defBody (top 23)) (defScope (top 23)) [] [] (adr 17) (fds 17)
  g17 : mg "_law_pick" = some (.ref (adr 17))
  F18 : FunD K "_law_same" "_law_same" (defArgs (top 24)) (defBody (top 24)) (defScope (top 24)) [] [] (adr 18) (fds 18)
  g18 : mg "_law_same" = some (.ref (adr 18))
  F19 : FunD K "_law_ints" "_law_ints" (defArgs (top 25)) (defBody (top 25)) (defScope (top 25)) [] [] (adr 19) (fds 19)
  g19 : mg "_law_ints" = some (.ref (adr 19))
  F20 : FunD K "_law_word" "_law_word" (defArgs (top 26)) (defBody (top 26)) (defScope (top 26)) [] [] (adr 20) (fds 20)
  g20 : mg "_law_word" = some (.ref (adr 20))
  F21 : FunD K "_law_rows" "_law_rows" (defArgs (top 27)) (defBody (top 27)) (defScope (top 27)) [] [] (adr 21) (fds 21)
  g21 : mg "_law_rows" = some (.ref (adr 21))
  F22 : FunD K "_law_lasts" "_law_lasts" (defArgs (top 28)) (defBody (top 28)) (defScope (top 28)) [] [] (adr 22) (fds 22)
  g22 : mg "_law_lasts" = some (.ref (adr 22))
  F23 : FunD K "_law_ranges" "_law_ranges" (defArgs (top 29)) (defBody (top 29)) (defScope (top 29)) [] [] (adr 23) (fds 23)
  g23 : mg "_law_ranges" = some (.ref (adr 23))
  F24 : FunD K "_law_kept" "_law_kept" (defArgs (top 30)) (defBody (top 30)) (defScope (top 30)) [] [] (adr 24) (fds 24)
  g24 : mg "_law_kept" = some (.ref (adr 24))
  F25 : FunD K "_law_ends" "_law_ends" (defArgs (top 31)) (defBody (top 31)) (defScope (top 31)) [] [] (adr 25) (fds 25)
  g25 : mg "_law_ends" = some (.ref (adr 25))
  F26 : FunD K "_law_stands" "_law_stands" (defArgs (top 32)) (defBody (top 32)) (defScope (top 32)) [] [] (adr 26) (fds 26)
  g26 : mg "_law_stands" = some (.ref (adr 26))
  F27 : FunD K "_law_bent" "_law_bent" (defArgs (top 33)) (defBody (top 33)) (defScope (top 33)) [] [] (adr 27) (fds 27)
  g27 : mg "_law_bent" = some (.ref (adr 27))
  F28 : FunD K "_law_is_looked_up" "_law_is_looked_up" (defArgs (top 34)) (defBody (top 34)) (defScope (top 34)) [] [] (adr 28) (fds 28)
  g28 : mg "_law_is_looked_up" = some (.ref (adr 28))
  F29 : FunD K "_law_is_kept" "_law_is_kept" (defArgs (top 35)) (defBody (top 35)) (defScope (top 35)) [] [] (adr 29) (fds 29)
  g29 : mg "_law_is_kept" = some (.ref (adr 29))
  F30 : FunD K "_law_are_ranks_right" "_law_are_ranks_right" (defArgs (top 36)) (defBody (top 36)) (defScope (top 36)) [] [] (adr 30) (fds 30)
  g30 : mg "_law_are_ranks_right" = some (.ref (adr 30))
  F31 : FunD K "_law_are_known_right" "_law_are_known_right" (defArgs (top 37)) (defBody (top 37)) (defScope (top 37)) [] [] (adr 31) (fds 31)
  g31 : mg "_law_are_known_right" = some (.ref (adr 31))
  F32 : FunD K "law" "law" (defArgs (top 38)) (defBody (top 38)) (defScope (top 38)) [] [] (adr 32) (fds 32)
  g32 : mg "law" = some (.ref (adr 32))
  m_abs : mg "abs" = none
  m_all : mg "all" = none
  m_bool : mg "bool" = none
  m_enumerate : mg "enumerate" = none
  m_int : mg "int" = none
  m_isinstance : mg "isinstance" = none
  m_len : mg "len" = none
  m_list : mg "list" = none
  m_min : mg "min" = none
  m_range : mg "range" = none
  m_reversed : mg "reversed" = none
  m_sorted : mg "sorted" = none
  m_str : mg "str" = none
  m_tuple : mg "tuple" = none
  m_zip : mg "zip" = none
structure Ok (Pg : Program) (w : World) (K : PySem.W.Frag) (mg : Str → Option Value) (base : Heap) (EK : EKT) (adr : Nat → Addr) (fds : Nat → FuncData) (n : Nat) : Prop where
  o0 : FnG Pg w K mg base (CX Pg w) n (adr 0) (fds 0) ["word"] (spF K EK (clN tab n 0) 1 [])
  o1 : FnG Pg w K mg base (CX Pg w) n (adr 1) (fds 1) ["word"] (spF K EK (clN tab n 1) 1 [])
  o2 : FnG Pg w K mg base (CX Pg w) n (adr 2) (fds 2) ["signs"] (spF K EK (clN tab n 2) 1 [])
  o3 : FnG Pg w K mg base (CX Pg w) n (adr 3) (fds 3) ["steps", "place"] (spF K EK (clN tab n 3) 2 [])
  o4 : FnG Pg w K mg base (CX Pg w) n (adr 4) (fds 4) ["lasts"] (spF K EK (clN tab n 4) 1 [])
  o5 : FnG Pg w K mg base (CX Pg w) n (adr 5) (fds 5) ["lasts"] (spF K EK (clN tab n 5) 1 [])
  o6 : FnG Pg w K mg base (CX Pg w) n (adr 6) (fds 6) ["lasts", "letter"] (spF K EK (clN tab n 6) 2 [])
  o7 : FnG Pg w K mg base (CX Pg w) n (adr 7) (fds 7) ["lasts", "part"] (spF K EK (clN tab n 7) 2 [])
  o8 : FnG Pg w K mg base (CX Pg w) n (adr 8) (fds 8) ["lasts", "part"] (spF K EK (clN tab n 8) 2 [])
  o9 : FnG Pg w K mg base (CX Pg w) n (adr 9) (fds 9) ["lasts", "part"] (spF K EK (clN tab n 9) 2 [])
  o10 : FnG Pg w K mg base (CX Pg w) n (adr 10) (fds 10) ["lasts", "letter"] (spF K EK (clN tab n 10) 2 [])
  o11 : FnG Pg w K mg base (CX Pg w) n (adr 11) (fds 11) ["lasts", "part"] (spF K EK (clN tab n 11) 2 [])
  o12 : FnG Pg w K mg base (CX Pg w) n (adr 12) (fds 12) ["word", "part"] (spF K EK (clN tab n 12) 2 [])
  o13 : FnG Pg w K mg base (CX Pg w) n (adr 13) (fds 13) ["word", "part"] (spF K EK (clN tab n 13) 2 [])
  o14 : FnG Pg w K mg base (CX Pg w) n (adr 14) (fds 14) ["word"] (spF K EK (clN tab n 14) 1 [])
  o15 : FnG Pg w K mg base (CX Pg w) n (adr 15) (fds 15) ["script"] (spF K EK (clN tab n 15) 1 [])
  o16 : FnG Pg w K mg base (CX Pg w) n (adr 16) (fds 16) ["bag", "below"] (spF K EK (clN tab n 16) 2 [0])
  o17 : FnG Pg w K mg base (CX Pg w) n (adr 17) (fds 17) ["bag", "some"] (spF K EK (clN tab n 17) 2 [0])
  o18 : FnG Pg w K mg base (CX Pg w) n (adr 18) (fds 18) ["told", "due"] (spF K EK (clN tab n 18) 2 [])
  o19 : FnG Pg w K mg base (CX Pg w) n (adr 19) (fds 19) ["told", "due"] (spF K EK (clN tab n 19) 2 [])
  o20 : FnG Pg w K mg base (CX Pg w) n (adr 20) (fds 20) ["bag"] (spF K EK (clN tab n 20) 1 [0])
  o21 : FnG Pg w K mg base (CX Pg w) n (adr 21) (fds 21) ["word"] (spF K EK (clN tab n 21) 1 [])
  o22 : FnG Pg w K mg base (CX Pg w) n (adr 22) (fds 22) ["word", "rows"] (spF K EK (clN tab n 22) 2 [])
  o23 : FnG Pg w K mg base (CX Pg w) n (adr 23) (fds 23) ["lasts", "part"] (spF K EK (clN tab n 23) 2 [])
  o24 : FnG Pg w K mg base (CX Pg w) n (adr 24) (fds 24) ["rows", "lasts", "part", "due"] (spF K EK (clN tab n 24) 4 [])
  o25 : FnG Pg w K mg base (CX Pg w) n (adr 25) (fds 25) ["rows", "lasts"] (spF K EK (clN tab n 25) 2 [])
  o26 : FnG Pg w K mg base (CX Pg w) n (adr 26) (fds 26) ["word", "part"] (spF K EK (clN tab n 26) 2 [])
  o27 : FnG Pg w K mg base (CX Pg w) n (adr 27) (fds 27) ["bag", "word", "turn"] (spF K EK (clN tab n 27) 3 [0])
  o28 : FnG Pg w K mg base (CX Pg w) n (adr 28) (fds 28) ["word", "lasts", "part", "way"] (spF K EK (clN tab n 28) 4 [])
  o29 : FnG Pg w K mg base (CX Pg w) n (adr 29) (fds 29) ["word", "rows", "lasts", "part", "way"] (spF K EK (clN tab n 29) 5 [])
  o30 : FnG Pg w K mg base (CX Pg w) n (adr 30) (fds 30) ["bag", "lasts"] (spF K EK (clN tab n 30) 2 [0])
  o31 : FnG Pg w K mg base (CX Pg w) n (adr 31) (fds 31) [] (spF K EK (clN tab n 31) 0 [])
  o32 : FnG Pg w K mg base (CX Pg w) n (adr 32) (fds 32) ["script"] (spF K EK (clN tab n 32) 1 [])
section
variable {Pg : Program} {w : World} {K : PySem.W.Frag} {mg : Str → Option Value} {base : Heap} {EK : EKT} {adr : Nat → Addr} {fds : Nat → FuncData} {n : Nat}
theorem b0 (D : Facts K mg adr fds) : Binds K (fds 0) ["word"] [] := D.F0.bindsN fun _ _ _ _ _ _ us hl => match us, hl with | [_], _ => rfl
theorem b1 (D : Facts K mg adr fds) : Binds K (fds 1) ["word"] [] := D.F1.bindsN fun _ _ _ _ _ _ us hl => match us, hl with | [_], _ => rfl
theorem b2 (D : Facts K mg adr fds) : Binds K (fds 2) ["signs"] [] := D.F2.bindsN fun _ _ _ _ _ _ us hl => match us, hl with | [_], _ => rfl
theorem b3 (D : Facts K mg adr fds) : Binds K (fds 3) ["steps", "place"] [] := D.F3.bindsN fun _ _ _ _ _ _ us hl => match us, hl with | [_, _], _ => rfl
theorem b4 (D : Facts K mg adr fds) : Binds K (fds 4) ["lasts"] [] := D.F4.bindsN fun _ _ _ _ _ _ us hl => match us, hl with | [_], _ => rfl
theorem b5 (D : Facts K mg adr fds) : Binds K (fds 5) ["lasts"] [] := D.F5.bindsN fun _ _ _ _ _ _ us hl => match us, hl with | [_], _ => rfl
theorem b6 (D : Facts K mg adr fds) : Binds K (fds 6) ["lasts", "letter"] [] := D.F6.bindsN fun _ _ _ _ _ _ us hl => match us, hl with | [_, _], _ => rfl
theorem b7 (D : Facts K mg adr fds) : Binds K (fds 7) ["lasts", "part"] [] := D.F7.bindsN fun _ _ _ _ _ _ us hl => match us, hl with | [_, _], _ => rfl
theorem b8 (D : Facts K mg adr fds) : Binds K (fds 8) ["lasts", "part"] [] := D.F8.bindsN fun _ _ _ _ _ _ us hl => match us, hl with | [_, _], _ => rfl
theorem b9 (D : Facts K mg adr fds) : Binds K (fds 9) ["lasts", "part"] [] := D.F9.bindsN fun _ _ _ _ _ _ us hl => match us, hl with | [_, _], _ => rfl
theorem b10 (D : Facts K mg adr fds) : Binds K (fds 10) ["lasts", "letter"] [] := D.F10.bindsN fun _ _ _ _ _ _ us hl => match us, hl with | [_, _], _ => rfl
theorem b11 (D : Facts K mg adr fds) : Binds K (fds 11) ["lasts", "part"] [] := D.F11.bindsN fun _ _ _ _ _ _ us hl => match us, hl with | [_, _], _ => rfl
theorem b12 (D : Facts K mg adr fds) : Binds K (fds 12) ["word", "part"] [] := D.F12.bindsN fun _ _ _ _ _ _ us hl => match us, hl with | [_, _], _ => rfl
theorem b13 (D : Facts K mg adr fds) : Binds K (fds 13) ["word", "part"] [] := D.F13.bindsN fun _ _ _ _ _ _ us hl => match us, hl with | [_, _], _ => rfl
theorem b14 (D : Facts K mg adr fds) : Binds K (fds 14) ["word"] [] := D.F14.bindsN fun _ _ _ _ _ _ us hl => match us, hl with | [_], _ => rfl
theorem b15 (D : Facts K mg adr fds) : Binds K (fds 15) ["script"] [] := D.F15.bindsN fun _ _ _ _ _ _ us hl => match us, hl with | [_], _ => rfl
theorem b16 (D : Facts K mg adr fds) : Binds K (fds 16) ["bag", "below"] [] := D.F16.bindsN fun _ _ _ _ _ _ us hl => match us, hl with | [_, _], _ => rfl
theorem b17 (D : Facts K mg adr fds) : Binds K (fds 17) ["bag", "some"] [] := D.F17.bindsN fun _ _ _ _ _ _ us hl => match us, hl with | [_, _], _ => rfl
theorem b18 (D : Facts K mg adr fds) : Binds K (fds 18) ["told", "due"] [] := D.F18.bindsN fun _ _ _ _ _ _ us hl => match us, hl with | [_, _], _ => rfl
theorem b19 (D : Facts K mg adr fds) : Binds K (fds 19) ["told", "due"] [] := D.F19.bindsN fun _ _ _ _ _ _ us hl => match us, hl with | [_, _], _ => rfl
theorem b20 (D : Facts K mg adr fds) : Binds K (fds 20) ["bag"] [] := D.F20.bindsN fun _ _ _ _ _ _ us hl => match us, hl with | [_], _ => rfl
theorem b21 (D : Facts K mg adr fds) : Binds K (fds 21) ["word"] [] := D.F21.bindsN fun _ _ _ _ _ _ us hl => match us, hl with | [_], _ => rfl
theorem b22 (D : Facts K mg adr fds) : Binds K (fds 22) ["word", "rows"] [] := D.F22.bindsN fun _ _ _ _ _ _ us hl => match us, hl with | [_, _], _ => rfl
theorem b23 (D : Facts K mg adr fds) : Binds K (fds 23) ["lasts", "part"] [] := D.F23.bindsN fun _ _ _ _ _ _ us hl => match us, hl with | [_, _], _ => rfl
theorem b24 (D : Facts K mg adr fds) : Binds K (fds 24) ["rows", "lasts", "part", "due"] [] := D.F24.bindsN fun _ _ _ _ _ _ us hl => match us, hl with | [_, _, _, _], _ => rfl
theorem b25 (D : Facts K mg adr fds) : Binds K (fds 25) ["rows", "lasts"] [] := D.F25.bindsN fun _ _ _ _ _ _ us hl => match us, hl with | [_, _], _ => rfl
theorem b26 (D : Facts K mg adr fds) : Binds K (fds 26) ["word", "part"] [] := D.F26.bindsN fun _ _ _ _ _ _ us hl => match us, hl with | [_, _], _ => rfl
theorem b27 (D : Facts K mg adr fds) : Binds K (fds 27) ["bag", "word", "turn"] [] := D.F27.bindsN fun _ _ _ _ _ _ us hl => match us, hl with | [_, _, _], _ => rfl
theorem b28 (D : Facts K mg adr fds) : Binds K (fds 28) ["word", "lasts", "part", "way"] [] := D.F28.bindsN fun _ _ _ _ _ _ us hl => match us, hl with | [_, _, _, _], _ => rfl
theorem b29 (D : Facts K mg adr fds) : Binds K (fds 29) ["word", "rows", "lasts", "part", "way"] [] := D.F29.bindsN fun _ _ _ _ _ _ us hl => match us, hl with | [_, _, _, _, _], _ => rfl
theorem b30 (D : Facts K mg adr fds) : Binds K (fds 30) ["bag", "lasts"] [] := D.F30.bindsN fun _ _ _ _ _ _ us hl => match us, hl with | [_, _], _ => rfl
theorem b31 (D : Facts K mg adr fds) : Binds K (fds 31) [] [] := D.F31.bindsN fun _ _ _ _ _ _ us hl => match us, hl with | [], _ => rfl
theorem b32 (D : Facts K mg adr fds) : Binds K (fds 32) ["script"] [] := D.F32.bindsN fun _ _ _ _ _ _ us hl => match us, hl with | [_], _ => rfl
def N0 : List Str := ["word", "signs", "tail", "place"]
theorem sc0 : FnScope ["word", "signs", "tail", "place"] ["word"] (defScope (top 1)) := ⟨rfl, rfl, rfl, by decide +kernel, rfl, by decide +kernel, by decide +kernel⟩
theorem step0 (D : Facts K mg adr fds) (O : Ok Pg w K mg base EK adr fds n) : FnG Pg w K mg base (CX Pg w) (n + 1) (adr 0) (fds 0) ["word"] (spF K EK (fnRun f0 (clN tab n)) 1 []) :=
  have S := sc0
  fn_okN (fn := f0) (c := c0) rfl D.F0 S rfl rfl (by decide) (by decide) fun cdv A outer s H E hg hr =>
  (xb_cons (xs_asg 1 S.nd (x_bin opr_add (x_n 0) (x_v (x_str))))
  (xb_one (xs_ret (x_callT cr_tuple boot_tuple D.m_tuple (xa_cons (x_v (x_lc [("tail", 2), ("place", 3)] rfl S.nd (xi_val (x_v (x_callB (cr_sorted (u70 hr)) boot_sorted D.m_sorted (xa_cons (x_v (x_lc [("place", 3)] rfl S.nd (xi_r1 D.m_range (xa_cons (x_v (x_callB cr_len boot_len D.m_len (xa_cons (x_n 1) xa_nil))) xa_nil)) (fun _ _ _ _ _ => (xg_n 3 S.nd)) (fun _ _ _ _ _ => xts_nil) (fun _ _ _ _ _ => (x_tup (xl_cons (x_slA (x_n 1) (x_var 3)) (xl_cons (x_var 3) xl_nil)))))) xa_nil)))) (fun _ _ _ _ _ => (xg_t rfl (xgs_cons (xg_n 2 S.nd) (xgs_cons (xg_n 3 S.nd) xgs_nil)))) (fun _ _ _ _ _ => xts_nil) (fun _ _ _ _ _ => (x_var 3)))) xa_nil)))))
def N1 : List Str := ["word", "signs", "place"]
theorem sc1 : FnScope ["word", "signs", "place"] ["word"] (defScope (top 2)) := ⟨rfl, rfl, rfl, by decide +kernel, rfl, by decide +kernel, by decide +kernel⟩
theorem step1 (D : Facts K mg adr fds) (O : Ok Pg w K mg base EK adr fds n) : FnG Pg w K mg base (CX Pg w) (n + 1) (adr 1) (fds 1) ["word"] (spF K EK (fnRun f1 (clN tab n)) 1 []) :=
  have S := sc1
  fn_okN (fn := f1) (c := c1) rfl D.F1 S rfl rfl (by decide) (by decide) fun cdv A outer s H E hg hr =>
  (xb_cons (xs_asg 1 S.nd (x_bin opr_add (x_n 0) (x_v (x_str))))
  (xb_one (xs_ret (x_meth PySem.F.plainAttrs_str PySem.F.slot_str_join PySem.F.type_str_join mr_join ty_str (x_v (x_str)) (xa_cons (x_v (x_lc [("place", 2)] rfl S.nd (xi_val (x_v (x_call O.o0 hg hr D.g0 D.F0.kp (b0 D) (xa_cons (x_v (x_var 0)) xa_nil)))) (fun _ _ _ _ _ => (xg_n 2 S.nd)) (fun _ _ _ _ _ => xts_nil) (fun _ _ _ _ _ => (x_ix (x_n 1) (x_v (x_bin opr_sub (x_n 2) (x_v x_int))))))) xa_nil)))))
def N2 : List Str := ["signs", "found", "row", "sign", "place"]
theorem sc2 : FnScope ["signs", "found", "row", "sign", "place"] ["signs"] (defScope (top 3)) := ⟨rfl, rfl, rfl, by decide +kernel, rfl, by decide +kernel, by decide +kernel⟩
theorem step2 (D : Facts K mg adr fds) (O : Ok Pg w K mg base EK adr fds n) : FnG Pg w K mg base (CX Pg w) (n + 1) (adr 2) (fds 2) ["signs"] (spF K EK (fnRun f2 (clN tab n)) 1 []) :=
  have S := sc2
  fn_okN (fn := f2) (c := c2) rfl D.F2 S rfl rfl (by decide) (by decide) fun cdv A outer s H E hg hr =>
  (xb_cons (xs_asg 1 S.nd (x_bin opr_mul (x_v (x_lst (xl_cons x_int xl_nil))) (x_v (x_callB cr_len boot_len D.m_len (xa_cons (x_n 0) xa_nil)))))
  (xb_cons (xs_for [] (passes_of rfl) rfl (xi_enum D.m_enumerate (xa_cons (x_v (x_callB (cr_sorted (u70 hr)) boot_sorted D.m_sorted (xa_cons (x_v (x_lc [("place", 4), ("sign", 3)] rfl S.nd (xi_enum D.m_enumerate (xa_cons (x_n 0) xa_nil)) (fun _ _ _ _ _ => (xg_t rfl (xgs_cons (xg_n 4 S.nd) (xgs_cons (xg_n 3 S.nd) xgs_nil)))) (fun _ _ _ _ _ => xts_nil) (fun _ _ _ _ _ => (x_tup (xl_cons (x_var 3) (xl_cons (x_var 4) xl_nil)))))) xa_nil))) xa_nil)) (xg_t rfl (xgs_cons (xg_n 2 S.nd) (xgs_cons (xg_t rfl (xgs_cons (xg_n 3 S.nd) (xgs_cons (xg_n 4 S.nd) xgs_nil))) xgs_nil))) (xb_one (xs_set 1 (x_var 2) (x_n 4))))
  (xb_one (xs_ret (x_callT cr_tuple boot_tuple D.m_tuple (xa_cons (x_n 1) xa_nil))))))
def N3 : List Str := ["steps", "place", "found", "turn"]
theorem sc3 : FnScope ["steps", "place", "found", "turn"] ["steps", "place"] (defScope (top 4)) := ⟨rfl, rfl, rfl, by decide +kernel, rfl, by decide +kernel, by decide +kernel⟩
theorem step3 (D : Facts K mg adr fds) (O : Ok Pg w K mg base EK adr fds n) : FnG Pg w K mg base (CX Pg w) (n + 1) (adr 3) (fds 3) ["steps", "place"] (spF K EK (fnRun f3 (clN tab n)) 2 []) :=
  have S := sc3
  fn_okN (fn := f3) (c := c3) rfl D.F3 S rfl rfl (by decide) (by decide) fun cdv A outer s H E hg hr =>
  (xb_cons (xs_asg 2 S.nd (x_lst (xl_cons (x_var 1) xl_nil)))
  (xb_cons (xs_for [] (passes_of rfl) rfl (xi_r1 D.m_range (xa_cons (x_v (x_callB cr_len boot_len D.m_len (xa_cons (x_n 0) xa_nil))) xa_nil)) (xg_n 3 S.nd) (xb_cons (xs_if (xt_eq (u64 hr) (x_v (x_ix (x_n 0) (x_v (x_ix (x_n 2) (x_v (x_neg (x_v x_int))))))) (x_n 1)) (xb_one xs_bk) xb_nil)
  (xb_one (xs_do (x_mut 2 PySem.F.slot_list_append PySem.F.type_list_append mt_append mu_app (xa_cons (x_v (x_ix (x_n 0) (x_v (x_ix (x_n 2) (x_v (x_neg (x_v x_int))))))) xa_nil))))))
  (xb_one (xs_ret (x_callT cr_tuple boot_tuple D.m_tuple (xa_cons (x_n 2) xa_nil))))))
def N4 : List Str := ["lasts"]
theorem sc4 : FnScope ["lasts"] ["lasts"] (defScope (top 6)) := ⟨rfl, rfl, rfl, by decide +kernel, rfl, by decide +kernel, by decide +kernel⟩
theorem step4 (D : Facts K mg adr fds) (O : Ok Pg w K mg base EK adr fds n) : FnG Pg w K mg base (CX Pg w) (n + 1) (adr 4) (fds 4) ["lasts"] (spF K EK (fnRun f4 (clN tab n)) 1 []) :=
  have S := sc4
  fn_okN (fn := f4) (c := c4) rfl D.F4 S rfl rfl (by decide) (by decide) fun cdv A outer s H E hg hr =>
  (xb_one (xs_ret (x_call O.o3 hg hr D.g3 D.F3.kp (b3 D) (xa_cons (x_v (x_call O.o2 hg hr D.g2 D.F2.kp (b2 D) (xa_cons (x_v (x_var 0)) xa_nil))) (xa_cons (x_v x_int) xa_nil)))))
def N5 : List Str := ["lasts", "row"]
theorem sc5 : FnScope ["lasts", "row"] ["lasts"] (defScope (top 7)) := ⟨rfl, rfl, rfl, by decide +kernel, rfl, by decide +kernel, by decide +kernel⟩
theorem step5 (D : Facts K mg adr fds) (O : Ok Pg w K mg base EK adr fds n) : FnG Pg w K mg base (CX Pg w) (n + 1) (adr 5) (fds 5) ["lasts"] (spF K EK (fnRun f5 (clN tab n)) 1 []) :=
  have S := sc5
  fn_okN (fn := f5) (c := c5) rfl D.F5 S rfl rfl (by decide) (by decide) fun cdv A outer s H E hg hr =>
  (xb_one (xs_ret (x_revRepl (x_v (x_meth PySem.F.plainAttrs_str PySem.F.slot_str_join PySem.F.type_str_join mr_join ty_str (x_v (x_str)) (xa_cons (x_v (x_lc [("row", 1)] rfl S.nd (xi_val (x_v (x_call O.o4 hg hr D.g4 D.F4.kp (b4 D) (xa_cons (x_v (x_var 0)) xa_nil)))) (fun _ _ _ _ _ => (xg_n 1 S.nd)) (fun _ _ _ _ _ => xts_nil) (fun _ _ _ _ _ => (x_ix (x_n 0) (x_n 1))))) xa_nil))))))
def N6 : List Str := ["lasts", "letter", "sign"]
theorem sc6 : FnScope ["lasts", "letter", "sign"] ["lasts", "letter"] (defScope (top 9)) := ⟨rfl, rfl, rfl, by decide +kernel, rfl, by decide +kernel, by decide +kernel⟩
theorem step6 (D : Facts K mg adr fds) (O : Ok Pg w K mg base EK adr fds n) : FnG Pg w K mg base (CX Pg w) (n + 1) (adr 6) (fds 6) ["lasts", "letter"] (spF K EK (fnRun f6 (clN tab n)) 2 []) :=
  have S := sc6
  fn_okN (fn := f6) (c := c6) rfl D.F6 S rfl rfl (by decide) (by decide) fun cdv A outer s H E hg hr =>
  (xb_one (xs_ret (x_callB cr_len boot_len D.m_len (xa_cons (x_v (x_lc [("sign", 2)] rfl S.nd (xi_val (x_n 0)) (fun _ _ _ _ _ => (xg_n 2 S.nd)) (fun _ _ _ _ _ => (xts_one (xt_cmp opr_lt (x_n 2) (x_n 1)))) (fun _ _ _ _ _ => (x_var 2)))) xa_nil))))
def N7 : List Str := ["lasts", "part", "low", "high", "found", "letter", "less"]
theorem sc7 : FnScope ["lasts", "part", "low", "high", "found", "letter", "less"] ["lasts", "part"] (defScope (top 10)) := ⟨rfl, rfl, rfl, by decide +kernel, rfl, by decide +kernel, by decide +kernel⟩
theorem step7 (D : Facts K mg adr fds) (O : Ok Pg w K mg base EK adr fds n) : FnG Pg w K mg base (CX Pg w) (n + 1) (adr 7) (fds 7) ["lasts", "part"] (spF K EK (fnRun f7 (clN tab n)) 2 []) :=
  have S := sc7
  fn_okN (fn := f7) (c := c7) rfl D.F7 S rfl rfl (by decide) (by decide) fun cdv A outer s H E hg hr =>
  (xb_cons (xs_par2 2 3 rfl S.nd (xl_cons x_int (xl_cons (x_callB cr_len boot_len D.m_len (xa_cons (x_n 0) xa_nil)) xl_nil)))
  (xb_cons (xs_asg 4 S.nd (x_lst (xl_cons (x_tup (xl_cons (x_var 2) (xl_cons (x_var 3) xl_nil))) xl_nil)))
  (xb_cons (xs_for [] (passes_of rfl) rfl (xi_val (x_v (x_rev (x_n 1)))) (xg_n 5 S.nd) (xb_cons (xs_asg 6 S.nd (x_call O.o6 hg hr D.g6 D.F6.kp (b6 D) (xa_cons (x_v (x_var 0)) (xa_cons (x_v (x_var 5)) xa_nil))))
  (xb_cons (xs_par2 2 3 rfl S.nd (xl_cons (x_bin opr_add (x_n 6) (x_v (x_meth PySem.F.plainAttrs_str PySem.F.slot_str_count PySem.F.type_str_count mr_count ty_str (x_v (x_slB (x_n 0) (x_var 2))) (xa_cons (x_n 5) xa_nil)))) (xl_cons (x_bin opr_add (x_n 6) (x_v (x_meth PySem.F.plainAttrs_str PySem.F.slot_str_count PySem.F.type_str_count mr_count ty_str (x_v (x_slB (x_n 0) (x_var 3))) (xa_cons (x_n 5) xa_nil)))) xl_nil)))
  (xb_one (xs_do (x_mut 4 PySem.F.slot_list_append PySem.F.type_list_append mt_append mu_app (xa_cons (x_v (x_tup (xl_cons (x_var 2) (xl_cons (x_var 3) xl_nil)))) xa_nil)))))))
  (xb_one (xs_ret (x_callT cr_tuple boot_tuple D.m_tuple (xa_cons (x_n 4) xa_nil)))))))
def N8 : List Str := ["lasts", "part", "low", "high"]
theorem sc8 : FnScope ["lasts", "part", "low", "high"] ["lasts", "part"] (defScope (top 11)) := ⟨rfl, rfl, rfl, by decide +kernel, rfl, by decide +kernel, by decide +kernel⟩
theorem step8 (D : Facts K mg adr fds) (O : Ok Pg w K mg base EK adr fds n) : FnG Pg w K mg base (CX Pg w) (n + 1) (adr 8) (fds 8) ["lasts", "part"] (spF K EK (fnRun f8 (clN tab n)) 2 []) :=
  have S := sc8
  fn_okN (fn := f8) (c := c8) rfl D.F8 S rfl rfl (by decide) (by decide) fun cdv A outer s H E hg hr =>
  (xb_cons (xs_unp (x_ix (x_v (x_call O.o7 hg hr D.g7 D.F7.kp (b7 D) (xa_cons (x_v (x_var 0)) (xa_cons (x_v (x_var 1)) xa_nil)))) (x_v (x_neg (x_v x_int)))) (xg_t rfl (xgs_cons (xg_n 2 S.nd) (xgs_cons (xg_n 3 S.nd) xgs_nil))))
  (xb_one (xs_ret (x_bin opr_sub (x_n 3) (x_n 2)))))
def N9 : List Str := ["lasts", "part", "low", "high"]
theorem sc9 : FnScope ["lasts", "part", "low", "high"] ["lasts", "part"] (defScope (top 12)) := ⟨rfl, rfl, rfl, by decide +kernel, rfl, by decide +kernel, by decide +kernel⟩
theorem step9 (D : Facts K mg adr fds) (O : Ok Pg w K mg base EK adr fds n) : FnG Pg w K mg base (CX Pg w) (n + 1) (adr 9) (fds 9) ["lasts", "part"] (spF K EK (fnRun f9 (clN tab n)) 2 []) :=
  have S := sc9
  fn_okN (fn := f9) (c := c9) rfl D.F9 S rfl rfl (by decide) (by decide) fun cdv A outer s H E hg hr =>
  (xb_cons (xs_unp (x_ix (x_v (x_call O.o7 hg hr D.g7 D.F7.kp (b7 D) (xa_cons (x_v (x_var 0)) (xa_cons (x_v (x_var 1)) xa_nil)))) (x_v (x_neg (x_v x_int)))) (xg_t rfl (xgs_cons (xg_n 2 S.nd) (xgs_cons (xg_n 3 S.nd) xgs_nil))))
  (xb_one (xs_ret (x_callT cr_tuple boot_tuple D.m_tuple (xa_cons (x_v (x_callB (cr_sorted (u70 hr)) boot_sorted D.m_sorted (xa_cons (x_v (x_slAB (x_v (x_call O.o0 hg hr D.g0 D.F0.kp (b0 D) (xa_cons (x_v (x_call O.o5 hg hr D.g5 D.F5.kp (b5 D) (xa_cons (x_v (x_var 0)) xa_nil))) xa_nil))) (x_var 2) (x_var 3))) xa_nil))) xa_nil)))))
def N10 : List Str := ["lasts", "letter", "i"]
theorem sc10 : FnScope ["lasts", "letter", "i"] ["lasts", "letter"] (defScope (top 13)) := ⟨rfl, rfl, rfl, by decide +kernel, rfl, by decide +kernel, by decide +kernel⟩
theorem step10 (D : Facts K mg adr fds) (O : Ok Pg w K mg base EK adr fds n) : FnG Pg w K mg base (CX Pg w) (n + 1) (adr 10) (fds 10) ["lasts", "letter"] (spF K EK (fnRun f10 (clN tab n)) 2 []) :=
  have S := sc10
  fn_okN (fn := f10) (c := c10) rfl D.F10 S rfl rfl (by decide) (by decide) fun cdv A outer s H E hg hr =>
  (xb_one (xs_ret (x_callT cr_tuple boot_tuple D.m_tuple (xa_cons (x_v (x_lc [("i", 2)] rfl S.nd (xi_r1 D.m_range (xa_cons (x_v (x_bin opr_add (x_v (x_callB cr_len boot_len D.m_len (xa_cons (x_n 0) xa_nil))) (x_v x_int))) xa_nil)) (fun _ _ _ _ _ => (xg_n 2 S.nd)) (fun _ _ _ _ _ => xts_nil) (fun _ _ _ _ _ => (x_meth PySem.F.plainAttrs_str PySem.F.slot_str_count PySem.F.type_str_count mr_count ty_str (x_v (x_slB (x_n 0) (x_var 2))) (xa_cons (x_n 1) xa_nil))))) xa_nil))))
def N11 : List Str := ["lasts", "part", "found", "low", "high"]
theorem sc11 : FnScope ["lasts", "part", "found", "low", "high"] ["lasts", "part"] (defScope (top 15)) := ⟨rfl, rfl, rfl, by decide +kernel, rfl, by decide +kernel, by decide +kernel⟩
theorem step11 (D : Facts K mg adr fds) (O : Ok Pg w K mg base EK adr fds n) : FnG Pg w K mg base (CX Pg w) (n + 1) (adr 11) (fds 11) ["lasts", "part"] (spF K EK (fnRun f11 (clN tab n)) 2 []) :=
  have S := sc11
  fn_okN (fn := f11) (c := c11) rfl D.F11 S rfl rfl (by decide) (by decide) fun cdv A outer s H E hg hr =>
  (xb_cons (xs_asg 2 S.nd (x_lst xl_nil))
  (xb_cons (xs_for [] (passes_of rfl) rfl (xi_val (x_v (x_call O.o7 hg hr D.g7 D.F7.kp (b7 D) (xa_cons (x_v (x_var 0)) (xa_cons (x_v (x_var 1)) xa_nil))))) (xg_t rfl (xgs_cons (xg_n 3 S.nd) (xgs_cons (xg_n 4 S.nd) xgs_nil))) (xb_cons (xs_if (xt_cmp opr_ge (x_n 3) (x_n 4)) (xb_one xs_bk) xb_nil)
  (xb_one (xs_do (x_mut 2 PySem.F.slot_list_append PySem.F.type_list_append mt_append mu_app (xa_cons (x_v (x_var 4)) xa_nil))))))
  (xb_one (xs_mov 2))))
def N12 : List Str := ["word", "part", "places", "high"]
theorem sc12 : FnScope ["word", "part", "places", "high"] ["word", "part"] (defScope (top 16)) := ⟨rfl, rfl, rfl, by decide +kernel, rfl, by decide +kernel, by decide +kernel⟩
theorem step12 (D : Facts K mg adr fds) (O : Ok Pg w K mg base EK adr fds n) : FnG Pg w K mg base (CX Pg w) (n + 1) (adr 12) (fds 12) ["word", "part"] (spF K EK (fnRun f12 (clN tab n)) 2 []) :=
  have S := sc12
  fn_okN (fn := f12) (c := c12) rfl D.F12 S rfl rfl (by decide) (by decide) fun cdv A outer s H E hg hr =>
  (xb_cons (xs_asg 2 S.nd (x_call O.o0 hg hr D.g0 D.F0.kp (b0 D) (xa_cons (x_v (x_var 0)) xa_nil)))
  (xb_one (xs_ret (x_callT cr_tuple boot_tuple D.m_tuple (xa_cons (x_v (x_lc [("high", 3)] rfl S.nd (xi_val (x_v (x_call O.o11 hg hr D.g11 D.F11.kp (b11 D) (xa_cons (x_v (x_call O.o1 hg hr D.g1 D.F1.kp (b1 D) (xa_cons (x_v (x_var 0)) xa_nil))) (xa_cons (x_v (x_var 1)) xa_nil))))) (fun _ _ _ _ _ => (xg_n 3 S.nd)) (fun _ _ _ _ _ => xts_nil) (fun _ _ _ _ _ => (x_ix (x_n 2) (x_v (x_bin opr_sub (x_n 3) (x_v x_int))))))) xa_nil)))))
def N13 : List Str := ["word", "part", "lasts", "ends", "i", "high"]
theorem sc13 : FnScope ["word", "part", "lasts", "ends", "i", "high"] ["word", "part"] (defScope (top 17)) := ⟨rfl, rfl, rfl, by decide +kernel, rfl, by decide +kernel, by decide +kernel⟩
theorem step13 (D : Facts K mg adr fds) (O : Ok Pg w K mg base EK adr fds n) : FnG Pg w K mg base (CX Pg w) (n + 1) (adr 13) (fds 13) ["word", "part"] (spF K EK (fnRun f13 (clN tab n)) 2 []) :=
  have S := sc13
  fn_okN (fn := f13) (c := c13) rfl D.F13 S rfl rfl (by decide) (by decide) fun cdv A outer s H E hg hr =>
  (xb_cons (xs_asg 2 S.nd (x_call O.o1 hg hr D.g1 D.F1.kp (b1 D) (xa_cons (x_v (x_var 0)) xa_nil)))
  (xb_cons (xs_asg 3 S.nd (x_slB (x_v (x_call O.o11 hg hr D.g11 D.F11.kp (b11 D) (xa_cons (x_v (x_var 2)) (xa_cons (x_v (x_var 1)) xa_nil)))) (x_neg (x_v x_int))))
  (xb_one (xs_ret (x_callT cr_tuple boot_tuple D.m_tuple (xa_cons (x_v (x_lc [("i", 4), ("high", 5)] rfl S.nd (xi_enum D.m_enumerate (xa_cons (x_n 3) xa_nil)) (fun _ _ _ _ _ => (xg_t rfl (xgs_cons (xg_n 4 S.nd) (xgs_cons (xg_n 5 S.nd) xgs_nil)))) (fun _ _ _ _ _ => xts_nil) (fun _ _ _ _ _ => (x_eq (u64 hr) (x_v (x_ix (x_n 2) (x_v (x_bin opr_sub (x_n 5) (x_v x_int))))) (x_v (x_ix (x_n 1) (x_v (x_bin opr_sub (x_v (x_bin opr_sub (x_v (x_callB cr_len boot_len D.m_len (xa_cons (x_n 1) xa_nil))) (x_v x_int))) (x_n 4))))))))) xa_nil))))))
def N14 : List Str := ["word", "lasts", "places", "row", "rows"]
theorem sc14 : FnScope ["word", "lasts", "places", "row", "rows"] ["word"] (defScope (top 19)) := ⟨rfl, rfl, rfl, by decide +kernel, rfl, by decide +kernel, by decide +kernel⟩
theorem step14 (D : Facts K mg adr fds) (O : Ok Pg w K mg base EK adr fds n) : FnG Pg w K mg base (CX Pg w) (n + 1) (adr 14) (fds 14) ["word"] (spF K EK (fnRun f14 (clN tab n)) 1 []) :=
  have S := sc14
  fn_okN (fn := f14) (c := c14) rfl D.F14 S rfl rfl (by decide) (by decide) fun cdv A outer s H E hg hr =>
  (xb_cons (xs_unp (x_tup (xl_cons (x_call O.o1 hg hr D.g1 D.F1.kp (b1 D) (xa_cons (x_v (x_var 0)) xa_nil)) (xl_cons (x_call O.o0 hg hr D.g0 D.F0.kp (b0 D) (xa_cons (x_v (x_var 0)) xa_nil)) xl_nil))) (xg_t rfl (xgs_cons (xg_n 1 S.nd) (xgs_cons (xg_n 2 S.nd) xgs_nil))))
  (xb_cons (xs_asgLc 4 [("row", 3)] rfl S.nd (xi_r1 D.m_range (xa_cons (x_v (x_callB cr_len boot_len D.m_len (xa_cons (x_n 1) xa_nil))) xa_nil)) (fun _ _ _ _ _ => (xg_n 3 S.nd)) (fun _ _ _ _ _ => (xts_one (xt_w (xw_or (xt_eq (u64 hr) (x_v (x_bin opr_add (x_n 3) (x_v x_int))) (x_v (x_callB cr_len boot_len D.m_len (xa_cons (x_n 1) xa_nil)))) (xw_or1 (xt_ne (u64 hr) (x_v (x_ix (x_n 1) (x_v (x_bin opr_add (x_n 3) (x_v x_int))))) (x_v (x_ix (x_n 1) (x_n 3))))))))) (fun _ _ _ _ _ => (x_var 3)))
  (xb_one (xs_ret (x_callT cr_tuple boot_tuple D.m_tuple (xa_cons (x_v (x_callB (cr_sorted (u70 hr)) boot_sorted D.m_sorted (xa_cons (x_v (x_lc [("row", 3)] rfl S.nd (xi_val (x_n 4)) (fun _ _ _ _ _ => (xg_n 3 S.nd)) (fun _ _ _ _ _ => (xts_one (xt_ne (u64 hr) (x_v (x_ix (x_n 1) (x_n 3))) (x_v (x_str))))) (fun _ _ _ _ _ => (x_bin opr_sub (x_v (x_ix (x_n 2) (x_n 3))) (x_v x_int))))) xa_nil))) xa_nil))))))
def N15 : List Str := ["script", "c", "some", "m"]
theorem sc15 : FnScope ["script", "c", "some", "m"] ["script"] (defScope (top 21)) := ⟨rfl, rfl, rfl, by decide +kernel, rfl, by decide +kernel, by decide +kernel⟩
theorem step15 (D : Facts K mg adr fds) (O : Ok Pg w K mg base EK adr fds n) : FnG Pg w K mg base (CX Pg w) (n + 1) (adr 15) (fds 15) ["script"] (spF K EK (fnRun f15 (clN tab n)) 1 []) :=
  have S := sc15
  fn_okN (fn := f15) (c := c15) rfl D.F15 S rfl rfl (by decide) (by decide) fun cdv A outer s H E hg hr =>
  (xb_cons (xs_asgLc 2 [("c", 1)] rfl S.nd (xi_val (x_v (x_slB (x_n 0) x_int))) (fun _ _ _ _ _ => (xg_n 1 S.nd)) (fun _ _ _ _ _ => xts_nil) (fun _ _ _ _ _ => (x_bin opr_mod (x_v (x_callT cr_int boot_int D.m_int (xa_cons (x_v (x_callB cr_abs boot_abs D.m_abs (xa_cons (x_n 1) xa_nil))) xa_nil))) (x_v (x_bin opr_shl (x_v x_int) (x_v x_int))))))
  (xb_cons (xs_asg 3 S.nd (x_bin opr_add (x_v x_int) (x_v (x_callB cr_len boot_len D.m_len (xa_cons (x_n 2) xa_nil)))))
  (xb_cons (xs_for [2] (passes_of rfl) rfl (xi_val (x_n 2)) (xg_n 1 S.nd) (xb_one (xs_asg 3 S.nd (x_bin opr_mod (x_v (x_callT cr_int boot_int D.m_int (xa_cons (x_v (x_bin opr_add (x_v (x_bin opr_add (x_v (x_bin opr_mul (x_n 3) (x_v x_int))) (x_v (x_bin opr_mod (x_v (x_callT cr_int boot_int D.m_int (xa_cons (x_n 1) xa_nil))) (x_v x_int))))) (x_v x_int))) xa_nil))) (x_v x_int)))))
  (xb_one (xs_ret (x_lst (xl_cons (x_lc [("c", 1)] rfl S.nd (xi_rev D.m_reversed (xa_cons (x_v (x_callT (cr_listS rfl) boot_list D.m_list (xa_cons (x_n 2) xa_nil))) xa_nil)) (fun _ _ _ _ _ => (xg_n 1 S.nd)) (fun _ _ _ _ _ => (xts_one (xt_cmp opr_gt (x_n 1) (x_v (x_bin opr_pow (x_v x_int) (x_v x_int)))))) (fun _ _ _ _ _ => (x_var 1))) (xl_cons x_int (xl_cons (x_var 3) xl_nil)))))))))
def N16 : List Str := ["bag", "below", "x"]
theorem sc16 : FnScope ["bag", "below", "x"] ["bag", "below"] (defScope (top 22)) := ⟨rfl, rfl, rfl, by decide +kernel, rfl, by decide +kernel, by decide +kernel⟩
theorem step16 (D : Facts K mg adr fds) (O : Ok Pg w K mg base EK adr fds n) : FnG Pg w K mg base (CX Pg w) (n + 1) (adr 16) (fds 16) ["bag", "below"] (spF K EK (fnRun f16 (clN tab n)) 2 [0]) :=
  have S := sc16
  fn_okN (fn := f16) (c := c16) rfl D.F16 S rfl rfl (by decide) (by decide) fun cdv A outer s H E hg hr =>
  (xb_cons (xs_if (xt_w (xw_and (xt_eq (u64 hr) (x_v (x_ixN 0)) (x_v x_int)) (xw_and1 (xt_ixNilN 0 (u64 hr))))) (xb_one (xs_set 0 (x_pop0 0) (x_v x_int))) xb_nil)
  (xb_cons (xs_if (xt_cmp opr_gt (x_v (x_ixN 0)) (x_v x_int)) (xb_cons (xs_asg 2 S.nd (x_bin opr_mod (x_v (x_callT cr_int boot_int D.m_int (xa_cons (x_v (x_ixN 0)) xa_nil))) (x_n 1)))
  (xb_cons (xs_set 0 (x_bin opr_fdiv (x_v (x_ixN 0)) (x_n 1)) (x_v x_int))
  (xb_one (xs_mov 2)))) xb_nil)
  (xb_cons (xs_set 0 (x_bin opr_mod (x_v (x_callT cr_int boot_int D.m_int (xa_cons (x_v (x_bin opr_add (x_v (x_bin opr_mul (x_v (x_ixN 0)) (x_v x_int))) (x_v x_int))) xa_nil))) (x_v x_int)) (x_v x_int))
  (xb_one (xs_ret (x_bin opr_mod (x_v (x_callT cr_int boot_int D.m_int (xa_cons (x_v (x_bin opr_fdiv (x_v (x_bin opr_mod (x_v (x_callT cr_int boot_int D.m_int (xa_cons (x_v (x_bin opr_mul (x_v (x_ixN 0)) (x_v (x_ixN 0)))) xa_nil))) (x_v x_int))) (x_v x_int))) xa_nil))) (x_n 1)))))))
def N17 : List Str := ["bag", "some"]
theorem sc17 : FnScope ["bag", "some"] ["bag", "some"] (defScope (top 23)) := ⟨rfl, rfl, rfl, by decide +kernel, rfl, by decide +kernel, by decide +kernel⟩
theorem step17 (D : Facts K mg adr fds) (O : Ok Pg w K mg base EK adr fds n) : FnG Pg w K mg base (CX Pg w) (n + 1) (adr 17) (fds 17) ["bag", "some"] (spF K EK (fnRun f17 (clN tab n)) 2 [0]) :=
  have S := sc17
  fn_okN (fn := f17) (c := c17) rfl D.F17 S rfl rfl (by decide) (by decide) fun cdv A outer s H E hg hr =>
  (xb_one (xs_ret (x_ix (x_n 1) (x_v (x_call O.o16 hg hr D.g16 D.F16.kp (b16 D) (xa_cons (x_n 0) (xa_cons (x_v (x_callB cr_len boot_len D.m_len (xa_cons (x_n 1) xa_nil))) xa_nil)))))))
def N18 : List Str := ["told", "due", "x", "y"]
theorem sc18 : FnScope ["told", "due", "x", "y"] ["told", "due"] (defScope (top 24)) := ⟨rfl, rfl, rfl, by decide +kernel, rfl, by decide +kernel, by decide +kernel⟩
theorem step18 (D : Facts K mg adr fds) (O : Ok Pg w K mg base EK adr fds n) : FnG Pg w K mg base (CX Pg w) (n + 1) (adr 18) (fds 18) ["told", "due"] (spF K EK (fnRun f18 (clN tab n)) 2 []) :=
  have S := sc18
  fn_okN (fn := f18) (c := c18) rfl D.F18 S rfl rfl (by decide) (by decide) fun cdv A outer s H E hg hr =>
  (xb_cons (xs_if (xt_cmp opr_isN (x_n 1) (x_v x_non)) (xb_one (xs_ret (x_cmp opr_isN (x_n 0) (x_v x_non)))) xb_nil)
  (xb_cons (xs_if (xt_e (x_v (x_isi D.m_isinstance D.m_bool boot_bool (x_n 1)))) (xb_one (xs_ret (x_and (x_isi D.m_isinstance D.m_bool boot_bool (x_n 0)) (x_one (x_eq (u64 hr) (x_n 0) (x_n 1)))))) xb_nil)
  (xb_cons (xs_if (xt_e (x_v (x_isi D.m_isinstance D.m_int boot_int (x_n 1)))) (xb_one (xs_ret (x_and (x_isi D.m_isinstance D.m_int boot_int (x_n 0)) (x_and (x_not (x_v (x_isi D.m_isinstance D.m_bool boot_bool (x_n 0)))) (x_one (x_eq (u64 hr) (x_n 0) (x_n 1))))))) xb_nil)
  (xb_cons (xs_if (xt_e (x_v (x_isi D.m_isinstance D.m_str boot_str (x_n 1)))) (xb_one (xs_ret (x_and (x_isi D.m_isinstance D.m_str boot_str (x_n 0)) (x_one (x_eq (u64 hr) (x_n 0) (x_n 1)))))) xb_nil)
  (xb_cons (xs_if (xt_w (xw_or (xt_not (xt_e (x_v (x_isi D.m_isinstance D.m_tuple boot_tuple (x_n 0))))) (xw_or1 (xt_ne (u64 hr) (x_v (x_callB cr_len boot_len D.m_len (xa_cons (x_n 0) xa_nil))) (x_v (x_callB cr_len boot_len D.m_len (xa_cons (x_n 1) xa_nil))))))) (xb_one (xs_ret x_bl)) xb_nil)
  (xb_one (xs_ret (x_callB (cr_allD rfl) boot_all D.m_all (xa_cons (x_v (x_lc [("x", 2), ("y", 3)] rfl S.nd (xi_zip D.m_zip (xa_cons (x_n 0) (xa_cons (x_n 1) xa_nil))) (fun _ _ _ _ _ => (xg_t rfl (xgs_cons (xg_n 2 S.nd) (xgs_cons (xg_n 3 S.nd) xgs_nil)))) (fun _ _ _ _ _ => xts_nil) (fun _ _ _ _ _ => (x_call O.o18 hg hr D.g18 D.F18.kp (b18 D) (xa_cons (x_v (x_var 2)) (xa_cons (x_v (x_var 3)) xa_nil)))))) xa_nil)))))))))
def N19 : List Str := ["told", "due", "x"]
theorem sc19 : FnScope ["told", "due", "x"] ["told", "due"] (defScope (top 25)) := ⟨rfl, rfl, rfl, by decide +kernel, rfl, by decide +kernel, by decide +kernel⟩
theorem step19 (D : Facts K mg adr fds) (O : Ok Pg w K mg base EK adr fds n) : FnG Pg w K mg base (CX Pg w) (n + 1) (adr 19) (fds 19) ["told", "due"] (spF K EK (fnRun f19 (clN tab n)) 2 []) :=
  have S := sc19
  fn_okN (fn := f19) (c := c19) rfl D.F19 S rfl rfl (by decide) (by decide) fun cdv A outer s H E hg hr =>
  (xb_cons (xs_if (xt_w (xw_or (xt_not (xt_e (x_v (x_isi D.m_isinstance D.m_tuple boot_tuple (x_n 0))))) (xw_or1 (xt_ne (u64 hr) (x_v (x_callB cr_len boot_len D.m_len (xa_cons (x_n 0) xa_nil))) (x_v (x_callB cr_len boot_len D.m_len (xa_cons (x_n 1) xa_nil))))))) (xb_one (xs_ret x_bl)) xb_nil)
  (xb_one (xs_ret (x_and (x_callB (cr_allD rfl) boot_all D.m_all (xa_cons (x_v (x_lc [("x", 2)] rfl S.nd (xi_val (x_n 0)) (fun _ _ _ _ _ => (xg_n 2 S.nd)) (fun _ _ _ _ _ => xts_nil) (fun _ _ _ _ _ => (x_and (x_isi D.m_isinstance D.m_int boot_int (x_n 2)) (x_one (x_not (x_v (x_isi D.m_isinstance D.m_bool boot_bool (x_n 2))))))))) xa_nil)) (x_one (x_eq (u64 hr) (x_n 0) (x_n 1)))))))
def N20 : List Str := ["bag", "long", "some", "way", "k", "root", "turn", "f", "x", "y", "text"]
theorem sc20 : FnScope ["bag", "long", "some", "way", "k", "root", "turn", "f", "x", "y", "text"] ["bag"] (defScope (top 26)) := ⟨rfl, rfl, rfl, by decide +kernel, rfl, by decide +kernel, by decide +kernel⟩
theorem step20 (D : Facts K mg adr fds) (O : Ok Pg w K mg base EK adr fds n) : FnG Pg w K mg base (CX Pg w) (n + 1) (adr 20) (fds 20) ["bag"] (spF K EK (fnRun f20 (clN tab n)) 1 [0]) :=
  have S := sc20
  fn_okN (fn := f20) (c := c20) rfl D.F20 S rfl rfl (by decide) (by decide) fun cdv A outer s H E hg hr =>
  (xb_cons (xs_asg 1 S.nd (x_call O.o17 hg hr D.g17 D.F17.kp (b17 D) (xa_cons (x_n 0) (xa_cons (x_v (x_lst (xl_cons x_int (xl_cons x_int (xl_cons x_int (xl_cons (x_call O.o16 hg hr D.g16 D.F16.kp (b16 D) (xa_cons (x_n 0) (xa_cons (x_v x_int) xa_nil))) (xl_cons (x_call O.o16 hg hr D.g16 D.F16.kp (b16 D) (xa_cons (x_n 0) (xa_cons (x_v x_int) xa_nil))) (xl_cons (x_bin opr_sub (x_v (x_bin opr_sub (x_v x_int) (x_v x_int))) (x_v (x_call O.o16 hg hr D.g16 D.F16.kp (b16 D) (xa_cons (x_n 0) (xa_cons (x_v x_int) xa_nil))))) xl_nil)))))))) xa_nil))))
  (xb_cons (xs_unp (x_tup (xl_cons (x_call O.o17 hg hr D.g17 D.F17.kp (b17 D) (xa_cons (x_n 0) (xa_cons (x_v (x_lst (xl_cons (x_str) (xl_cons (x_str) (xl_cons (x_str) (xl_cons (x_str) (xl_cons (x_str) (xl_cons (x_str) (xl_cons (x_str) (xl_cons (x_str) xl_nil)))))))))) xa_nil))) (xl_cons (x_call O.o16 hg hr D.g16 D.F16.kp (b16 D) (xa_cons (x_n 0) (xa_cons (x_v x_int) xa_nil))) xl_nil))) (xg_t rfl (xgs_cons (xg_n 2 S.nd) (xgs_cons (xg_n 3 S.nd) xgs_nil))))
  (xb_cons (xs_asg 5 S.nd (x_meth PySem.F.plainAttrs_str PySem.F.slot_str_join PySem.F.type_str_join mr_join ty_str (x_v (x_str)) (xa_cons (x_v (x_lc [("k", 4)] rfl S.nd (xi_r1 D.m_range (xa_cons (x_v (x_ifE (xt_eq (u64 hr) (x_n 3) (x_v x_int)) (x_var 1) (x_bin opr_add (x_v x_int) (x_v (x_call O.o16 hg hr D.g16 D.F16.kp (b16 D) (xa_cons (x_n 0) (xa_cons (x_v x_int) xa_nil))))))) xa_nil)) (fun _ _ _ _ _ => (xg_n 4 S.nd)) (fun _ _ _ _ _ => xts_nil) (fun _ _ _ _ _ => (x_call O.o17 hg hr D.g17 D.F17.kp (b17 D) (xa_cons (x_n 0) (xa_cons (x_v (x_var 2)) xa_nil)))))) xa_nil)))
  (xb_cons (xs_if (xt_eq (u64 hr) (x_n 3) (x_v x_int)) (xb_one (xs_for [0] (passes_of rfl) rfl (xi_r1 D.m_range (xa_cons (x_v x_int) xa_nil)) (xg_n 6 S.nd) (xb_cons (xs_asg 7 S.nd (x_call O.o16 hg hr D.g16 D.F16.kp (b16 D) (xa_cons (x_n 0) (xa_cons (x_v (x_callB cr_len boot_len D.m_len (xa_cons (x_n 5) xa_nil))) xa_nil))))
  (xb_one (xs_asg 5 S.nd (x_bin opr_add (x_v (x_bin opr_add (x_n 5) (x_v (x_slAB (x_n 5) (x_var 7) (x_bin opr_add (x_v (x_bin opr_add (x_n 7) (x_v x_int))) (x_v (x_call O.o16 hg hr D.g16 D.F16.kp (b16 D) (xa_cons (x_n 0) (xa_cons (x_v x_int) xa_nil))))))))) (x_v (x_call O.o17 hg hr D.g17 D.F17.kp (b17 D) (xa_cons (x_n 0) (xa_cons (x_v (x_var 2)) xa_nil)))))))))) xb_nil)
  (xb_cons (xs_if (xt_eq (u64 hr) (x_n 3) (x_v x_int)) (xb_cons (xs_par2 8 9 rfl S.nd (xl_cons (x_var 5) (xl_cons (x_call O.o17 hg hr D.g17 D.F17.kp (b17 D) (xa_cons (x_n 0) (xa_cons (x_v (x_var 2)) xa_nil))) xl_nil)))
  (xb_cons (xs_for [0] (passes_of rfl) rfl (xi_r1 D.m_range (xa_cons (x_v x_int) xa_nil)) (xg_n 6 S.nd) (xb_one (xs_par2 8 9 rfl S.nd (xl_cons (x_bin opr_add (x_n 8) (x_n 9)) (xl_cons (x_var 8) xl_nil)))))
  (xb_one (xs_asg 5 S.nd (x_var 8))))) xb_nil)
  (xb_cons (xs_asg 10 S.nd (x_slB (x_v (x_bin opr_mul (x_n 5) (x_v x_int))) (x_var 1)))
  (xb_cons (xs_if (xt_w (xw_and (xt_eq (u64 hr) (x_n 3) (x_v x_int)) (xw_and1 (xt_cmp opr_gt (x_n 1) (x_v x_int))))) (xb_cons (xs_asg 4 S.nd (x_call O.o16 hg hr D.g16 D.F16.kp (b16 D) (xa_cons (x_n 0) (xa_cons (x_v (x_var 1)) xa_nil))))
  (xb_one (xs_asg 10 S.nd (x_bin opr_add (x_v (x_bin opr_add (x_v (x_slB (x_n 10) (x_var 4))) (x_v (x_call O.o17 hg hr D.g17 D.F17.kp (b17 D) (xa_cons (x_n 0) (xa_cons (x_v (x_str)) xa_nil)))))) (x_v (x_slA (x_n 10) (x_bin opr_add (x_n 4) (x_v x_int)))))))) xb_nil)
  (xb_one (xs_mov 10)))))))))
def N21 : List Str := ["word", "n", "t", "k"]
theorem sc21 : FnScope ["word", "n", "t", "k"] ["word"] (defScope (top 27)) := ⟨rfl, rfl, rfl, by decide +kernel, rfl, by decide +kernel, by decide +kernel⟩
theorem step21 (D : Facts K mg adr fds) (O : Ok Pg w K mg base EK adr fds n) : FnG Pg w K mg base (CX Pg w) (n + 1) (adr 21) (fds 21) ["word"] (spF K EK (fnRun f21 (clN tab n)) 1 []) :=
  have S := sc21
  fn_okN (fn := f21) (c := c21) rfl D.F21 S rfl rfl (by decide) (by decide) fun cdv A outer s H E hg hr =>
  (xb_cons (xs_asg 1 S.nd (x_callB cr_len boot_len D.m_len (xa_cons (x_n 0) xa_nil)))
  (xb_one (xs_ret (x_lc [("t", 2)] rfl S.nd (xi_val (x_v (x_callB (cr_sorted (u70 hr)) boot_sorted D.m_sorted (xa_cons (x_v (x_lc [("k", 3)] rfl S.nd (xi_r1 D.m_range (xa_cons (x_v (x_bin opr_add (x_n 1) (x_v x_int))) xa_nil)) (fun _ _ _ _ _ => (xg_n 3 S.nd)) (fun _ _ _ _ _ => xts_nil) (fun _ _ _ _ _ => (x_slA (x_n 0) (x_var 3))))) xa_nil)))) (fun _ _ _ _ _ => (xg_n 2 S.nd)) (fun _ _ _ _ _ => xts_nil) (fun _ _ _ _ _ => (x_bin opr_sub (x_n 1) (x_v (x_callB cr_len boot_len D.m_len (xa_cons (x_n 2) xa_nil)))))))))
def N22 : List Str := ["word", "rows", "p"]
theorem sc22 : FnScope ["word", "rows", "p"] ["word", "rows"] (defScope (top 28)) := ⟨rfl, rfl, rfl, by decide +kernel, rfl, by decide +kernel, by decide +kernel⟩
theorem step22 (D : Facts K mg adr fds) (O : Ok Pg w K mg base EK adr fds n) : FnG Pg w K mg base (CX Pg w) (n + 1) (adr 22) (fds 22) ["word", "rows"] (spF K EK (fnRun f22 (clN tab n)) 2 []) :=
  have S := sc22
  fn_okN (fn := f22) (c := c22) rfl D.F22 S rfl rfl (by decide) (by decide) fun cdv A outer s H E hg hr =>
  (xb_one (xs_ret (x_meth PySem.F.plainAttrs_str PySem.F.slot_str_join PySem.F.type_str_join mr_join ty_str (x_v (x_str)) (xa_cons (x_v (x_lc [("p", 2)] rfl S.nd (xi_val (x_n 1)) (fun _ _ _ _ _ => (xg_n 2 S.nd)) (fun _ _ _ _ _ => xts_nil) (fun _ _ _ _ _ => (x_ifE (xt_eq (u64 hr) (x_n 2) (x_v x_int)) (x_str) (x_ix (x_n 0) (x_v (x_bin opr_sub (x_n 2) (x_v x_int)))))))) xa_nil))))
def N23 : List Str := ["lasts", "part", "low", "high", "found", "s", "less", "t"]
theorem sc23 : FnScope ["lasts", "part", "low", "high", "found", "s", "less", "t"] ["lasts", "part"] (defScope (top 29)) := ⟨rfl, rfl, rfl, by decide +kernel, rfl, by decide +kernel, by decide +kernel⟩
theorem step23 (D : Facts K mg adr fds) (O : Ok Pg w K mg base EK adr fds n) : FnG Pg w K mg base (CX Pg w) (n + 1) (adr 23) (fds 23) ["lasts", "part"] (spF K EK (fnRun f23 (clN tab n)) 2 []) :=
  have S := sc23
  fn_okN (fn := f23) (c := c23) rfl D.F23 S rfl rfl (by decide) (by decide) fun cdv A outer s H E hg hr =>
  (xb_cons (xs_par3 2 3 4 rfl S.nd (xl_cons x_int (xl_cons (x_callB cr_len boot_len D.m_len (xa_cons (x_n 0) xa_nil)) (xl_cons (x_lst (xl_cons (x_tup (xl_cons x_int (xl_cons (x_callB cr_len boot_len D.m_len (xa_cons (x_n 0) xa_nil)) xl_nil))) xl_nil)) xl_nil))))
  (xb_cons (xs_for [] (passes_of rfl) rfl (xi_rev D.m_reversed (xa_cons (x_v (x_callT (cr_listS rfl) boot_list D.m_list (xa_cons (x_n 1) xa_nil))) xa_nil)) (xg_n 5 S.nd) (xb_cons (xs_asg 6 S.nd x_int)
  (xb_cons (xs_for [] (passes_of rfl) rfl (xi_val (x_v (x_str))) (xg_n 7 S.nd) (xb_one (xs_asg 6 S.nd (x_bin opr_add (x_n 6) (x_v (x_ifE (xt_cmp opr_lt (x_n 7) (x_n 5)) (x_meth PySem.F.plainAttrs_str PySem.F.slot_str_count PySem.F.type_str_count mr_count ty_str (x_n 0) (xa_cons (x_n 7) xa_nil)) x_int))))))
  (xb_cons (xs_par2 2 3 rfl S.nd (xl_cons (x_bin opr_add (x_n 6) (x_v (x_meth PySem.F.plainAttrs_str PySem.F.slot_str_count PySem.F.type_str_count mr_count ty_str (x_v (x_slB (x_n 0) (x_var 2))) (xa_cons (x_n 5) xa_nil)))) (xl_cons (x_bin opr_add (x_n 6) (x_v (x_meth PySem.F.plainAttrs_str PySem.F.slot_str_count PySem.F.type_str_count mr_count ty_str (x_v (x_slB (x_n 0) (x_var 3))) (xa_cons (x_n 5) xa_nil)))) xl_nil)))
  (xb_one (xs_do (x_mut 4 PySem.F.slot_list_append PySem.F.type_list_append mt_append mu_app (xa_cons (x_v (x_tup (xl_cons (x_var 2) (xl_cons (x_var 3) xl_nil)))) xa_nil))))))))
  (xb_one (xs_ret (x_callT cr_tuple boot_tuple D.m_tuple (xa_cons (x_n 4) xa_nil))))))
def N24 : List Str := ["rows", "lasts", "part", "due", "places", "moves", "t", "low", "high"]
theorem sc24 : FnScope ["rows", "lasts", "part", "due", "places", "moves", "t", "low", "high"] ["rows", "lasts", "part", "due"] (defScope (top 30)) := ⟨rfl, rfl, rfl, by decide +kernel, rfl, by decide +kernel, by decide +kernel⟩
theorem step24 (D : Facts K mg adr fds) (O : Ok Pg w K mg base EK adr fds n) : FnG Pg w K mg base (CX Pg w) (n + 1) (adr 24) (fds 24) ["rows", "lasts", "part", "due"] (spF K EK (fnRun f24 (clN tab n)) 4 []) :=
  have S := sc24
  fn_okN (fn := f24) (c := c24) rfl D.F24 S rfl rfl (by decide) (by decide) fun cdv A outer s H E hg hr =>
  (xb_cons (xs_par2 4 5 rfl S.nd (xl_cons (x_lst xl_nil) (xl_cons (x_lst xl_nil) xl_nil)))
  (xb_cons (xs_for [3] (passes_of rfl) rfl (xi_enum D.m_enumerate (xa_cons (x_n 3) xa_nil)) (xg_t rfl (xgs_cons (xg_n 6 S.nd) (xgs_cons (xg_t rfl (xgs_cons (xg_n 7 S.nd) (xgs_cons (xg_n 8 S.nd) xgs_nil))) xgs_nil))) (xb_cons (xs_if (xt_cmp opr_ge (x_n 7) (x_n 8)) (xb_one xs_bk) xb_nil)
  (xb_cons (xs_if (xt_cmp opr_gt (x_n 6) (x_v x_int)) (xb_one (xs_do (x_mut 5 PySem.F.slot_list_append PySem.F.type_list_append mt_append mu_app (xa_cons (x_v (x_eq (u64 hr) (x_v (x_ix (x_n 1) (x_v (x_bin opr_sub (x_v (x_ix (x_v (x_ix (x_n 3) (x_v (x_bin opr_sub (x_n 6) (x_v x_int))))) (x_v x_int))) (x_v x_int))))) (x_v (x_ix (x_n 2) (x_v (x_bin opr_sub (x_v (x_callB cr_len boot_len D.m_len (xa_cons (x_n 2) xa_nil))) (x_n 6))))))) xa_nil)))) xb_nil)
  (xb_one (xs_do (x_mut 4 PySem.F.slot_list_append PySem.F.type_list_append mt_append mu_app (xa_cons (x_v (x_ix (x_n 0) (x_v (x_bin opr_sub (x_n 8) (x_v x_int))))) xa_nil)))))))
  (xb_one (xs_ret (x_tup (xl_cons (x_callT cr_tuple boot_tuple D.m_tuple (xa_cons (x_n 4) xa_nil)) (xl_cons (x_callT cr_tuple boot_tuple D.m_tuple (xa_cons (x_n 5) xa_nil)) xl_nil)))))))
def N25 : List Str := ["rows", "lasts", "n", "k", "some"]
theorem sc25 : FnScope ["rows", "lasts", "n", "k", "some"] ["rows", "lasts"] (defScope (top 31)) := ⟨rfl, rfl, rfl, by decide +kernel, rfl, by decide +kernel, by decide +kernel⟩
theorem step25 (D : Facts K mg adr fds) (O : Ok Pg w K mg base EK adr fds n) : FnG Pg w K mg base (CX Pg w) (n + 1) (adr 25) (fds 25) ["rows", "lasts"] (spF K EK (fnRun f25 (clN tab n)) 2 []) :=
  have S := sc25
  fn_okN (fn := f25) (c := c25) rfl D.F25 S rfl rfl (by decide) (by decide) fun cdv A outer s H E hg hr =>
  (xb_cons (xs_asg 2 S.nd (x_callB cr_len boot_len D.m_len (xa_cons (x_n 0) xa_nil)))
  (xb_cons (xs_asgLc 4 [("k", 3)] rfl S.nd (xi_r1 D.m_range (xa_cons (x_n 2) xa_nil)) (fun _ _ _ _ _ => (xg_n 3 S.nd)) (fun _ _ _ _ _ => (xts_one (xt_w (xw_and (xt_ne (u64 hr) (x_v (x_ix (x_n 1) (x_n 3))) (x_v (x_str))) (xw_and1 (xt_w (xw_or (xt_eq (u64 hr) (x_v (x_bin opr_add (x_n 3) (x_v x_int))) (x_n 2)) (xw_or1 (xt_ne (u64 hr) (x_v (x_ix (x_n 1) (x_v (x_bin opr_add (x_n 3) (x_v x_int))))) (x_v (x_ix (x_n 1) (x_n 3)))))))))))) (fun _ _ _ _ _ => (x_bin opr_sub (x_v (x_ix (x_n 0) (x_n 3))) (x_v x_int))))
  (xb_one (xs_ret (x_callT cr_tuple boot_tuple D.m_tuple (xa_cons (x_v (x_callB (cr_sorted (u70 hr)) boot_sorted D.m_sorted (xa_cons (x_n 4) xa_nil))) xa_nil))))))
def N26 : List Str := ["word", "part", "k"]
theorem sc26 : FnScope ["word", "part", "k"] ["word", "part"] (defScope (top 32)) := ⟨rfl, rfl, rfl, by decide +kernel, rfl, by decide +kernel, by decide +kernel⟩
theorem step26 (D : Facts K mg adr fds) (O : Ok Pg w K mg base EK adr fds n) : FnG Pg w K mg base (CX Pg w) (n + 1) (adr 26) (fds 26) ["word", "part"] (spF K EK (fnRun f26 (clN tab n)) 2 []) :=
  have S := sc26
  fn_okN (fn := f26) (c := c26) rfl D.F26 S rfl rfl (by decide) (by decide) fun cdv A outer s H E hg hr =>
  (xb_one (xs_ret (x_callT cr_tuple boot_tuple D.m_tuple (xa_cons (x_v (x_lc [("k", 2)] rfl S.nd (xi_r1 D.m_range (xa_cons (x_v (x_callB cr_len boot_len D.m_len (xa_cons (x_n 0) xa_nil))) xa_nil)) (fun _ _ _ _ _ => (xg_n 2 S.nd)) (fun _ _ _ _ _ => (xts_one (xt_eq (u64 hr) (x_v (x_slAB (x_n 0) (x_var 2) (x_bin opr_add (x_n 2) (x_v (x_callB cr_len boot_len D.m_len (xa_cons (x_n 1) xa_nil)))))) (x_n 1)))) (fun _ _ _ _ _ => (x_var 2)))) xa_nil))))
def N27 : List Str := ["bag", "word", "turn", "n", "k", "f", "long", "part", "s"]
theorem sc27 : FnScope ["bag", "word", "turn", "n", "k", "f", "long", "part", "s"] ["bag", "word", "turn"] (defScope (top 33)) := ⟨rfl, rfl, rfl, by decide +kernel, rfl, by decide +kernel, by decide +kernel⟩
theorem step27 (D : Facts K mg adr fds) (O : Ok Pg w K mg base EK adr fds n) : FnG Pg w K mg base (CX Pg w) (n + 1) (adr 27) (fds 27) ["bag", "word", "turn"] (spF K EK (fnRun f27 (clN tab n)) 3 [0]) :=
  have S := sc27
  fn_okN (fn := f27) (c := c27) rfl D.F27 S rfl rfl (by decide) (by decide) fun cdv A outer s H E hg hr =>
  (xb_cons (xs_asg 3 S.nd (x_callB cr_len boot_len D.m_len (xa_cons (x_n 1) xa_nil)))
  (xb_cons (xs_if (xt_w (xw_or (xt_eq (u64 hr) (x_n 3) (x_v x_int)) (xw_or1 (xt_eq (u64 hr) (x_n 2) (x_v x_int))))) (xb_one (xs_ret (x_meth PySem.F.plainAttrs_str PySem.F.slot_str_join PySem.F.type_str_join mr_join ty_str (x_v (x_str)) (xa_cons (x_v (x_lc [("k", 4)] rfl S.nd (xi_r1 D.m_range (xa_cons (x_v (x_call O.o16 hg hr D.g16 D.F16.kp (b16 D) (xa_cons (x_n 0) (xa_cons (x_v x_int) xa_nil)))) xa_nil)) (fun _ _ _ _ _ => (xg_n 4 S.nd)) (fun _ _ _ _ _ => xts_nil) (fun _ _ _ _ _ => (x_call O.o17 hg hr D.g17 D.F17.kp (b17 D) (xa_cons (x_n 0) (xa_cons (x_v (x_str)) xa_nil)))))) xa_nil)))) xb_nil)
  (xb_cons (xs_asg 5 S.nd (x_ifE (xt_eq (u64 hr) (x_v (x_call O.o16 hg hr D.g16 D.F16.kp (b16 D) (xa_cons (x_n 0) (xa_cons (x_v x_int) xa_nil)))) (x_v x_int)) x_int (x_call O.o16 hg hr D.g16 D.F16.kp (b16 D) (xa_cons (x_n 0) (xa_cons (x_v (x_var 3)) xa_nil)))))
  (xb_cons (xs_asg 6 S.nd (x_ifE (xt_eq (u64 hr) (x_v (x_call O.o16 hg hr D.g16 D.F16.kp (b16 D) (xa_cons (x_n 0) (xa_cons (x_v x_int) xa_nil)))) (x_v x_int)) (x_bin opr_sub (x_n 3) (x_n 5)) (x_bin opr_add (x_v x_int) (x_v (x_call O.o16 hg hr D.g16 D.F16.kp (b16 D) (xa_cons (x_n 0) (xa_cons (x_v (x_callB (cr_min2 rfl) boot_min D.m_min (xa_cons (x_v (x_bin opr_sub (x_n 3) (x_n 5))) (xa_cons (x_v x_int) xa_nil)))) xa_nil)))))))
  (xb_cons (xs_asg 7 S.nd (x_slAB (x_n 1) (x_var 5) (x_bin opr_add (x_n 5) (x_n 6))))
  (xb_cons (xs_if (xt_cmp opr_lt (x_n 2) (x_v x_int)) (xb_cons (xs_asg 4 S.nd (x_ix (x_v (x_lst (xl_cons x_int (xl_cons (x_bin opr_sub (x_n 6) (x_v x_int)) (xl_cons (x_call O.o16 hg hr D.g16 D.F16.kp (b16 D) (xa_cons (x_n 0) (xa_cons (x_v (x_var 6)) xa_nil))) xl_nil))))) (x_n 2)))
  (xb_cons (xs_asg 4 S.nd (x_ifE (xt_w (xw_and (xt_eq (u64 hr) (x_n 2) (x_v x_int)) (xw_and (xt_cmp opr_gt (x_n 6) (x_v x_int)) (xw_and1 (xt_eq (u64 hr) (x_v (x_call O.o16 hg hr D.g16 D.F16.kp (b16 D) (xa_cons (x_n 0) (xa_cons (x_v x_int) xa_nil)))) (x_v x_int)))))) (x_bin opr_sub (x_n 6) (x_v x_int)) (x_var 4)))
  (xb_one (xs_ret (x_bin opr_add (x_v (x_bin opr_add (x_v (x_slB (x_n 7) (x_var 4))) (x_v (x_call O.o17 hg hr D.g17 D.F17.kp (b17 D) (xa_cons (x_n 0) (xa_cons (x_v (x_lc [("s", 8)] rfl S.nd (xi_val (x_v (x_str))) (fun _ _ _ _ _ => (xg_n 8 S.nd)) (fun _ _ _ _ _ => (xts_one (xt_ne (u64 hr) (x_n 8) (x_v (x_ix (x_n 7) (x_n 4)))))) (fun _ _ _ _ _ => (x_var 8)))) xa_nil)))))) (x_v (x_slA (x_n 7) (x_bin opr_add (x_n 4) (x_v x_int))))))))) xb_nil)
  (xb_cons (xs_if (xt_eq (u64 hr) (x_n 2) (x_v x_int)) (xb_one (xs_ret (x_slB (x_v (x_bin opr_add (x_v (x_call O.o17 hg hr D.g17 D.F17.kp (b17 D) (xa_cons (x_n 0) (xa_cons (x_v (x_str)) xa_nil)))) (x_n 7))) x_int))) xb_nil)
  (xb_cons (xs_if (xt_eq (u64 hr) (x_n 2) (x_v x_int)) (xb_one (xs_ret (x_slA (x_v (x_bin opr_add (x_n 7) (x_v (x_call O.o17 hg hr D.g17 D.F17.kp (b17 D) (xa_cons (x_n 0) (xa_cons (x_v (x_str)) xa_nil)))))) (x_neg (x_v x_int))))) xb_nil)
  (xb_one (xs_ret (x_ifE (xt_eq (u64 hr) (x_n 2) (x_v x_int)) (x_var 7) (x_slB (x_v (x_bin opr_mul (x_n 7) (x_v x_int))) x_int))))))))))))
def N28 : List Str := ["word", "lasts", "part", "way", "due", "told"]
theorem sc28 : FnScope ["word", "lasts", "part", "way", "due", "told"] ["word", "lasts", "part", "way"] (defScope (top 34)) := ⟨rfl, rfl, rfl, by decide +kernel, rfl, by decide +kernel, by decide +kernel⟩
theorem step28 (D : Facts K mg adr fds) (O : Ok Pg w K mg base EK adr fds n) : FnG Pg w K mg base (CX Pg w) (n + 1) (adr 28) (fds 28) ["word", "lasts", "part", "way"] (spF K EK (fnRun f28 (clN tab n)) 4 []) :=
  have S := sc28
  fn_okN (fn := f28) (c := c28) rfl D.F28 S rfl rfl (by decide) (by decide) fun cdv A outer s H E hg hr =>
  (xb_cons (xs_asg 4 S.nd (x_call O.o23 hg hr D.g23 D.F23.kp (b23 D) (xa_cons (x_v (x_var 1)) (xa_cons (x_v (x_var 2)) xa_nil))))
  (xb_cons (xs_asg 5 S.nd (x_ifE (xt_eq (u64 hr) (x_n 3) (x_v x_int)) (x_call O.o7 hg hr D.g7 D.F7.kp (b7 D) (xa_cons (x_v (x_var 1)) (xa_cons (x_v (x_var 2)) xa_nil))) (x_callK O.o7 hg hr D.g7 D.F7.kp (FunD_kb0 (ks := ["lasts", "part"]) (perm := [0, 1]) D.F7 (by decide) fun _ _ _ _ _ _ ws hl => match ws, hl with | [_, _], _ => rfl) (xk_cons (x_var 1) (xk_cons (x_var 2) xk_nil)))))
  (xb_cons (xs_if (xt_not (xt_e (x_v (x_call O.o18 hg hr D.g18 D.F18.kp (b18 D) (xa_cons (x_v (x_var 5)) (xa_cons (x_v (x_var 4)) xa_nil)))))) (xb_one (xs_ret x_bl)) xb_nil)
  (xb_cons (xs_asg 5 S.nd (x_ifE (xt_eq (u64 hr) (x_n 3) (x_v x_int)) (x_call O.o8 hg hr D.g8 D.F8.kp (b8 D) (xa_cons (x_v (x_var 1)) (xa_cons (x_v (x_var 2)) xa_nil))) (x_callK O.o8 hg hr D.g8 D.F8.kp (FunD_kb0 (ks := ["lasts", "part"]) (perm := [0, 1]) D.F8 (by decide) fun _ _ _ _ _ _ ws hl => match ws, hl with | [_, _], _ => rfl) (xk_cons (x_var 1) (xk_cons (x_var 2) xk_nil)))))
  (xb_cons (xs_if (xt_not (xt_e (x_v (x_call O.o18 hg hr D.g18 D.F18.kp (b18 D) (xa_cons (x_v (x_var 5)) (xa_cons (x_v (x_bin opr_sub (x_v (x_ix (x_v (x_ix (x_n 4) (x_v (x_neg (x_v x_int))))) (x_v x_int))) (x_v (x_ix (x_v (x_ix (x_n 4) (x_v (x_neg (x_v x_int))))) (x_v x_int))))) xa_nil)))))) (xb_one (xs_ret x_bl)) xb_nil)
  (xb_cons (xs_if (xt_eq (u64 hr) (x_n 2) (x_v (x_str))) (xb_one (xs_ret x_bl)) xb_nil)
  (xb_cons (xs_asg 5 S.nd (x_ifE (xt_eq (u64 hr) (x_n 3) (x_v x_int)) (x_call O.o9 hg hr D.g9 D.F9.kp (b9 D) (xa_cons (x_v (x_var 1)) (xa_cons (x_v (x_var 2)) xa_nil))) (x_callK O.o9 hg hr D.g9 D.F9.kp (FunD_kb0 (ks := ["lasts", "part"]) (perm := [0, 1]) D.F9 (by decide) fun _ _ _ _ _ _ ws hl => match ws, hl with | [_, _], _ => rfl) (xk_cons (x_var 1) (xk_cons (x_var 2) xk_nil)))))
  (xb_one (xs_ret (x_call O.o19 hg hr D.g19 D.F19.kp (b19 D) (xa_cons (x_v (x_var 5)) (xa_cons (x_v (x_call O.o26 hg hr D.g26 D.F26.kp (b26 D) (xa_cons (x_v (x_var 0)) (xa_cons (x_v (x_var 2)) xa_nil)))) xa_nil))))))))))))
def N29 : List Str := ["word", "rows", "lasts", "part", "way", "places", "moves", "there", "went", "ends", "k", "is_on", "some"]
theorem sc29 : FnScope ["word", "rows", "lasts", "part", "way", "places", "moves", "there", "went", "ends", "k", "is_on", "some"] ["word", "rows", "lasts", "part", "way"] (defScope (top 35)) := ⟨rfl, rfl, rfl, by decide +kernel, rfl, by decide +kernel, by decide +kernel⟩
theorem step29 (D : Facts K mg adr fds) (O : Ok Pg w K mg base EK adr fds n) : FnG Pg w K mg base (CX Pg w) (n + 1) (adr 29) (fds 29) ["word", "rows", "lasts", "part", "way"] (spF K EK (fnRun f29 (clN tab n)) 5 []) :=
  have S := sc29
  fn_okN (fn := f29) (c := c29) rfl D.F29 S rfl rfl (by decide) (by decide) fun cdv A outer s H E hg hr =>
  (xb_cons (xs_unp (x_call O.o24 hg hr D.g24 D.F24.kp (b24 D) (xa_cons (x_v (x_var 1)) (xa_cons (x_v (x_var 2)) (xa_cons (x_v (x_var 3)) (xa_cons (x_v (x_call O.o23 hg hr D.g23 D.F23.kp (b23 D) (xa_cons (x_v (x_var 2)) (xa_cons (x_v (x_var 3)) xa_nil)))) xa_nil))))) (xg_t rfl (xgs_cons (xg_n 5 S.nd) (xgs_cons (xg_n 6 S.nd) xgs_nil))))
  (xb_cons (xs_asg 7 S.nd (x_ifE (xt_eq (u64 hr) (x_n 4) (x_v x_int)) (x_call O.o12 hg hr D.g12 D.F12.kp (b12 D) (xa_cons (x_v (x_var 0)) (xa_cons (x_v (x_var 3)) xa_nil))) (x_callK O.o12 hg hr D.g12 D.F12.kp (FunD_kb0 (ks := ["word", "part"]) (perm := [0, 1]) D.F12 (by decide) fun _ _ _ _ _ _ ws hl => match ws, hl with | [_, _], _ => rfl) (xk_cons (x_var 0) (xk_cons (x_var 3) xk_nil)))))
  (xb_cons (xs_asg 8 S.nd (x_ifE (xt_eq (u64 hr) (x_n 4) (x_v x_int)) (x_call O.o13 hg hr D.g13 D.F13.kp (b13 D) (xa_cons (x_v (x_var 0)) (xa_cons (x_v (x_var 3)) xa_nil))) (x_callK O.o13 hg hr D.g13 D.F13.kp (FunD_kb0 (ks := ["word", "part"]) (perm := [0, 1]) D.F13 (by decide) fun _ _ _ _ _ _ ws hl => match ws, hl with | [_, _], _ => rfl) (xk_cons (x_var 0) (xk_cons (x_var 3) xk_nil)))))
  (xb_cons (xs_if (xt_w (xw_or (xt_not (xt_e (x_v (x_call O.o19 hg hr D.g19 D.F19.kp (b19 D) (xa_cons (x_v (x_var 7)) (xa_cons (x_v (x_var 5)) xa_nil)))))) (xw_or1 (xt_not (xt_e (x_v (x_call O.o18 hg hr D.g18 D.F18.kp (b18 D) (xa_cons (x_v (x_var 8)) (xa_cons (x_v (x_var 6)) xa_nil))))))))) (xb_one (xs_ret x_bl)) xb_nil)
  (xb_cons (xs_asg 9 S.nd (x_call O.o25 hg hr D.g25 D.F25.kp (b25 D) (xa_cons (x_v (x_var 1)) (xa_cons (x_v (x_var 2)) xa_nil))))
  (xb_cons (xs_for [8] (passes_of rfl) rfl (xi_enum D.m_enumerate (xa_cons (x_n 8) xa_nil)) (xg_t rfl (xgs_cons (xg_n 10 S.nd) (xgs_cons (xg_n 11 S.nd) xgs_nil))) (xb_one (xs_if (xt_w (xw_or (xt_w (xw_and (xt_e (x_n 11)) (xw_and1 (xt_ne (u64 hr) (x_v (x_ix (x_n 7) (x_v (x_bin opr_add (x_n 10) (x_v x_int))))) (x_v (x_bin opr_sub (x_v (x_ix (x_n 7) (x_n 10))) (x_v x_int))))))) (xw_or1 (xt_w (xw_and (xt_not (xt_e (x_n 11))) (xw_and1 (xt_cmp opr_notIn (x_v (x_ix (x_n 7) (x_v (x_bin opr_add (x_n 10) (x_v x_int))))) (x_n 9)))))))) (xb_one (xs_ret x_bl)) xb_nil)))
  (xb_cons (xs_asg 12 S.nd (x_call O.o26 hg hr D.g26 D.F26.kp (b26 D) (xa_cons (x_v (x_var 0)) (xa_cons (x_v (x_var 3)) xa_nil))))
  (xb_cons (xs_if (xt_w (xw_or (xt_eq (u64 hr) (x_n 3) (x_v (x_str))) (xw_or1 (xt_eq (u64 hr) (x_n 12) (x_v (x_tup xl_nil)))))) (xb_one (xs_ret (x_or (x_eq (u64 hr) (x_n 3) (x_v (x_str))) (x_one (x_cmp opr_le (x_v (x_callB cr_len boot_len D.m_len (xa_cons (x_n 7) xa_nil))) (x_v (x_callB cr_len boot_len D.m_len (xa_cons (x_n 3) xa_nil)))))))) xb_nil)
  (xb_one (xs_ret (x_and (x_eq (u64 hr) (x_v (x_callB cr_len boot_len D.m_len (xa_cons (x_n 7) xa_nil))) (x_v (x_bin opr_add (x_v (x_callB cr_len boot_len D.m_len (xa_cons (x_n 3) xa_nil))) (x_v x_int)))) (x_and (x_cmp opr_in (x_v (x_ix (x_n 7) (x_v x_int))) (x_n 9)) (x_one (x_cmp opr_in (x_v (x_ix (x_n 7) (x_v (x_neg (x_v x_int))))) (x_n 12)))))))))))))))
def N30 : List Str := ["bag", "lasts", "s", "due", "n", "t", "told"]
theorem sc30 : FnScope ["bag", "lasts", "s", "due", "n", "t", "told"] ["bag", "lasts"] (defScope (top 36)) := ⟨rfl, rfl, rfl, by decide +kernel, rfl, by decide +kernel, by decide +kernel⟩
theorem step30 (D : Facts K mg adr fds) (O : Ok Pg w K mg base EK adr fds n) : FnG Pg w K mg base (CX Pg w) (n + 1) (adr 30) (fds 30) ["bag", "lasts"] (spF K EK (fnRun f30 (clN tab n)) 2 [0]) :=
  have S := sc30
  fn_okN (fn := f30) (c := c30) rfl D.F30 S rfl rfl (by decide) (by decide) fun cdv A outer s H E hg hr =>
  (xb_cons (xs_for [0] (passes_of rfl) rfl (xi_val (x_v (x_str))) (xg_n 2 S.nd) (xb_cons (xs_par2 3 4 rfl S.nd (xl_cons (x_lst (xl_cons x_int xl_nil)) (xl_cons x_int xl_nil)))
  (xb_cons (xs_for [0, 1] (passes_of rfl) rfl (xi_val (x_n 1)) (xg_n 5 S.nd) (xb_cons (xs_asg 4 S.nd (x_bin opr_add (x_n 4) (x_v (x_ifE (xt_eq (u64 hr) (x_n 5) (x_n 2)) x_int x_int))))
  (xb_one (xs_do (x_mut 3 PySem.F.slot_list_append PySem.F.type_list_append mt_append mu_app (xa_cons (x_v (x_var 4)) xa_nil))))))
  (xb_cons (xs_asg 6 S.nd (x_ifE (xt_eq (u64 hr) (x_v (x_call O.o16 hg hr D.g16 D.F16.kp (b16 D) (xa_cons (x_n 0) (xa_cons (x_v x_int) xa_nil)))) (x_v x_int)) (x_call O.o10 hg hr D.g10 D.F10.kp (b10 D) (xa_cons (x_v (x_var 1)) (xa_cons (x_v (x_var 2)) xa_nil))) (x_callK O.o10 hg hr D.g10 D.F10.kp (FunD_kb0 (ks := ["lasts", "letter"]) (perm := [0, 1]) D.F10 (by decide) fun _ _ _ _ _ _ ws hl => match ws, hl with | [_, _], _ => rfl) (xk_cons (x_var 1) (xk_cons (x_var 2) xk_nil)))))
  (xb_one (xs_if (xt_not (xt_e (x_v (x_call O.o19 hg hr D.g19 D.F19.kp (b19 D) (xa_cons (x_v (x_var 6)) (xa_cons (x_v (x_callT cr_tuple boot_tuple D.m_tuple (xa_cons (x_n 3) xa_nil))) xa_nil)))))) (xb_one (xs_ret x_bl)) xb_nil))))))
  (xb_one (xs_ret x_bl)))
def N31 : List Str := ["lasts", "told", "part"]
theorem sc31 : FnScope ["lasts", "told", "part"] [] (defScope (top 37)) := ⟨rfl, rfl, rfl, by decide +kernel, rfl, by decide +kernel, by decide +kernel⟩
theorem step31 (D : Facts K mg adr fds) (O : Ok Pg w K mg base EK adr fds n) : FnG Pg w K mg base (CX Pg w) (n + 1) (adr 31) (fds 31) [] (spF K EK (fnRun f31 (clN tab n)) 0 []) :=
  have S := sc31
  fn_okN (fn := f31) (c := c31) rfl D.F31 S rfl rfl (by decide) (by decide) fun cdv A outer s H E hg hr =>
  (xb_cons (xs_asg 0 S.nd (x_str))
  (xb_cons (xs_asg 1 S.nd (x_tup (xl_cons (x_call O.o7 hg hr D.g7 D.F7.kp (b7 D) (xa_cons (x_v (x_var 0)) (xa_cons (x_v (x_str)) xa_nil))) (xl_cons (x_call O.o7 hg hr D.g7 D.F7.kp (b7 D) (xa_cons (x_v (x_var 0)) (xa_cons (x_v (x_str)) xa_nil))) xl_nil))))
  (xb_cons (xs_if (xt_not (xt_e (x_v (x_call O.o18 hg hr D.g18 D.F18.kp (b18 D) (xa_cons (x_v (x_var 1)) (xa_cons (x_v (x_tup (xl_cons (x_tup (xl_cons (x_tup (xl_cons x_int (xl_cons x_int xl_nil))) (xl_cons (x_tup (xl_cons x_int (xl_cons x_int xl_nil))) (xl_cons (x_tup (xl_cons x_int (xl_cons x_int xl_nil))) (xl_cons (x_tup (xl_cons x_int (xl_cons x_int xl_nil))) xl_nil))))) (xl_cons (x_tup (xl_cons (x_tup (xl_cons x_int (xl_cons x_int xl_nil))) (xl_cons (x_tup (xl_cons x_int (xl_cons x_int xl_nil))) (xl_cons (x_tup (xl_cons x_int (xl_cons x_int xl_nil))) xl_nil)))) xl_nil)))) xa_nil)))))) (xb_one (xs_ret x_bl)) xb_nil)
  (xb_cons (xs_asg 1 S.nd (x_callT cr_tuple boot_tuple D.m_tuple (xa_cons (x_v (x_lc [("part", 2)] rfl S.nd (xi_val (x_v (x_tup (xl_cons (x_str) (xl_cons (x_str) (xl_cons (x_str) (xl_cons (x_str) (xl_cons (x_str) xl_nil)))))))) (fun _ _ _ _ _ => (xg_n 2 S.nd)) (fun _ _ _ _ _ => xts_nil) (fun _ _ _ _ _ => (x_call O.o8 hg hr D.g8 D.F8.kp (b8 D) (xa_cons (x_v (x_var 0)) (xa_cons (x_v (x_var 2)) xa_nil)))))) xa_nil)))
  (xb_cons (xs_if (xt_w (xw_or (xt_not (xt_e (x_v (x_call O.o18 hg hr D.g18 D.F18.kp (b18 D) (xa_cons (x_v (x_var 1)) (xa_cons (x_v (x_tup (xl_cons x_int (xl_cons x_int (xl_cons x_int (xl_cons x_int (xl_cons x_int xl_nil))))))) xa_nil)))))) (xw_or1 (xt_not (xt_e (x_v (x_call O.o18 hg hr D.g18 D.F18.kp (b18 D) (xa_cons (x_v (x_call O.o9 hg hr D.g9 D.F9.kp (b9 D) (xa_cons (x_v (x_var 0)) (xa_cons (x_v (x_str)) xa_nil)))) (xa_cons (x_v (x_tup (xl_cons x_int (xl_cons x_int xl_nil)))) xa_nil))))))))) (xb_one (xs_ret x_bl)) xb_nil)
  (xb_cons (xs_if (xt_not (xt_e (x_v (x_call O.o18 hg hr D.g18 D.F18.kp (b18 D) (xa_cons (x_v (x_tup (xl_cons (x_call O.o9 hg hr D.g9 D.F9.kp (b9 D) (xa_cons (x_v (x_var 0)) (xa_cons (x_v (x_str)) xa_nil))) (xl_cons (x_call O.o10 hg hr D.g10 D.F10.kp (b10 D) (xa_cons (x_v (x_var 0)) (xa_cons (x_v (x_str)) xa_nil))) xl_nil)))) (xa_cons (x_v (x_tup (xl_cons (x_tup xl_nil) (xl_cons (x_tup (xl_cons x_int (xl_cons x_int (xl_cons x_int (xl_cons x_int (xl_cons x_int (xl_cons x_int (xl_cons x_int (xl_cons x_int (xl_cons x_int (xl_cons x_int xl_nil))))))))))) xl_nil)))) xa_nil)))))) (xb_one (xs_ret x_bl)) xb_nil)
  (xb_cons (xs_asg 1 S.nd (x_tup (xl_cons (x_call O.o12 hg hr D.g12 D.F12.kp (b12 D) (xa_cons (x_v (x_str)) (xa_cons (x_v (x_str)) xa_nil))) (xl_cons (x_call O.o13 hg hr D.g13 D.F13.kp (b13 D) (xa_cons (x_v (x_str)) (xa_cons (x_v (x_str)) xa_nil))) (xl_cons (x_call O.o12 hg hr D.g12 D.F12.kp (b12 D) (xa_cons (x_v (x_str)) (xa_cons (x_v (x_str)) xa_nil))) xl_nil)))))
  (xb_cons (xs_if (xt_not (xt_e (x_v (x_call O.o18 hg hr D.g18 D.F18.kp (b18 D) (xa_cons (x_v (x_var 1)) (xa_cons (x_v (x_tup (xl_cons (x_tup (xl_cons x_int (xl_cons x_int (xl_cons x_int (xl_cons x_int xl_nil))))) (xl_cons (x_tup (xl_cons x_bl (xl_cons x_bl (xl_cons x_bl xl_nil)))) (xl_cons (x_tup (xl_cons x_int (xl_cons x_int (xl_cons x_int (xl_cons x_int xl_nil))))) xl_nil))))) xa_nil)))))) (xb_one (xs_ret x_bl)) xb_nil)
  (xb_cons (xs_asg 1 S.nd (x_tup (xl_cons (x_call O.o13 hg hr D.g13 D.F13.kp (b13 D) (xa_cons (x_v (x_str)) (xa_cons (x_v (x_str)) xa_nil))) (xl_cons (x_call O.o12 hg hr D.g12 D.F12.kp (b12 D) (xa_cons (x_v (x_str)) (xa_cons (x_v (x_str)) xa_nil))) (xl_cons (x_call O.o12 hg hr D.g12 D.F12.kp (b12 D) (xa_cons (x_v (x_str)) (xa_cons (x_v (x_str)) xa_nil))) xl_nil)))))
  (xb_one (xs_ret (x_call O.o18 hg hr D.g18 D.F18.kp (b18 D) (xa_cons (x_v (x_var 1)) (xa_cons (x_v (x_tup (xl_cons (x_tup (xl_cons x_bl (xl_cons x_bl (xl_cons x_bl xl_nil)))) (xl_cons (x_tup (xl_cons x_int (xl_cons x_int xl_nil))) (xl_cons (x_tup (xl_cons x_int xl_nil)) xl_nil))))) xa_nil))))))))))))))
def N32 : List Str := ["script", "bag", "word", "other", "many", "k", "s", "rows", "more", "lasts", "later", "turn", "part", "way"]
theorem sc32 : FnScope ["script", "bag", "word", "other", "many", "k", "s", "rows", "more", "lasts", "later", "turn", "part", "way"] ["script"] (defScope (top 38)) := ⟨rfl, rfl, rfl, by decide +kernel, rfl, by decide +kernel, by decide +kernel⟩
theorem step32 (D : Facts K mg adr fds) (O : Ok Pg w K mg base EK adr fds n) : FnG Pg w K mg base (CX Pg w) (n + 1) (adr 32) (fds 32) ["script"] (spF K EK (fnRun f32 (clN tab n)) 1 []) :=
  have S := sc32
  fn_okN (fn := f32) (c := c32) rfl D.F32 S rfl rfl (by decide) (by decide) fun cdv A outer s H E hg hr =>
  (xb_cons (xs_asg 1 S.nd (x_call O.o15 hg hr D.g15 D.F15.kp (b15 D) (xa_cons (x_v (x_var 0)) xa_nil)))
  (xb_cons (xs_asg 2 S.nd (x_call O.o20 hg hr D.g20 D.F20.kp (b20 D) (xa_cons (x_n 1) xa_nil)))
  (xb_cons (xs_par2 3 4 rfl S.nd (xl_cons (x_var 2) (xl_cons (x_callB cr_len boot_len D.m_len (xa_cons (x_n 2) xa_nil)) xl_nil)))
  (xb_cons (xs_if (xt_cmp opr_gt (x_n 4) (x_v x_int)) (xb_cons (xs_asg 5 S.nd (x_call O.o17 hg hr D.g17 D.F17.kp (b17 D) (xa_cons (x_n 1) (xa_cons (x_v (x_lst (xl_cons (x_bin opr_sub (x_n 4) (x_v x_int)) (xl_cons (x_call O.o16 hg hr D.g16 D.F16.kp (b16 D) (xa_cons (x_n 1) (xa_cons (x_v (x_var 4)) xa_nil))) (xl_cons (x_call O.o16 hg hr D.g16 D.F16.kp (b16 D) (xa_cons (x_n 1) (xa_cons (x_v (x_var 4)) xa_nil))) xl_nil))))) xa_nil))))
  (xb_one (xs_asg 3 S.nd (x_bin opr_add (x_v (x_bin opr_add (x_v (x_slB (x_n 2) (x_var 5))) (x_v (x_call O.o17 hg hr D.g17 D.F17.kp (b17 D) (xa_cons (x_n 1) (xa_cons (x_v (x_lc [("s", 6)] rfl S.nd (xi_val (x_v (x_str))) (fun _ _ _ _ _ => (xg_n 6 S.nd)) (fun _ _ _ _ _ => (xts_one (xt_ne (u64 hr) (x_n 6) (x_v (x_ix (x_n 2) (x_n 5)))))) (fun _ _ _ _ _ => (x_var 6)))) xa_nil)))))) (x_v (x_slA (x_n 2) (x_bin opr_add (x_n 5) (x_v x_int)))))))) xb_nil)
  (xb_cons (xs_if (xt_not (xt_e (x_v (x_call0 O.o31 hg hr D.g31 D.F31.kp (b31 D))))) (xb_one (xs_ret x_bl)) xb_nil)
  (xb_cons (xs_par2 7 8 rfl S.nd (xl_cons (x_call O.o21 hg hr D.g21 D.F21.kp (b21 D) (xa_cons (x_v (x_var 2)) xa_nil)) (xl_cons (x_call O.o21 hg hr D.g21 D.F21.kp (b21 D) (xa_cons (x_v (x_var 3)) xa_nil)) xl_nil)))
  (xb_cons (xs_par2 9 10 rfl S.nd (xl_cons (x_call O.o22 hg hr D.g22 D.F22.kp (b22 D) (xa_cons (x_v (x_var 2)) (xa_cons (x_v (x_var 7)) xa_nil))) (xl_cons (x_call O.o22 hg hr D.g22 D.F22.kp (b22 D) (xa_cons (x_v (x_var 3)) (xa_cons (x_v (x_var 8)) xa_nil))) xl_nil)))
  (xb_cons (xs_if (xt_w (xw_or (xt_not (xt_e (x_v (x_call O.o30 hg hr D.g30 D.F30.kp (b30 D) (xa_cons (x_n 1) (xa_cons (x_v (x_var 9)) xa_nil)))))) (xw_or1 (xt_not (xt_e (x_v (x_call O.o30 hg hr D.g30 D.F30.kp (b30 D) (xa_cons (x_n 1) (xa_cons (x_v (x_var 10)) xa_nil))))))))) (xb_one (xs_ret x_bl)) xb_nil)
  (xb_cons (xs_if (xt_not (xt_e (x_v (x_call O.o19 hg hr D.g19 D.F19.kp (b19 D) (xa_cons (x_v (x_call O.o14 hg hr D.g14 D.F14.kp (b14 D) (xa_cons (x_v (x_var 2)) xa_nil))) (xa_cons (x_v (x_call O.o25 hg hr D.g25 D.F25.kp (b25 D) (xa_cons (x_v (x_var 7)) (xa_cons (x_v (x_var 9)) xa_nil)))) xa_nil)))))) (xb_one (xs_ret x_bl)) xb_nil)
  (xb_cons (xs_if (xt_not (xt_e (x_v (x_call O.o19 hg hr D.g19 D.F19.kp (b19 D) (xa_cons (x_v (x_callK O.o14 hg hr D.g14 D.F14.kp (FunD_kb0 (ks := ["word"]) (perm := [0]) D.F14 (by decide) fun _ _ _ _ _ _ ws hl => match ws, hl with | [_], _ => rfl) (xk_cons (x_var 3) xk_nil))) (xa_cons (x_v (x_call O.o25 hg hr D.g25 D.F25.kp (b25 D) (xa_cons (x_v (x_var 8)) (xa_cons (x_v (x_var 10)) xa_nil)))) xa_nil)))))) (xb_one (xs_ret x_bl)) xb_nil)
  (xb_cons (xs_for [] (passes_of rfl) rfl (xi_r1 D.m_range (xa_cons (x_v x_int) xa_nil)) (xg_n 11 S.nd) (xb_cons (xs_par2 12 13 rfl S.nd (xl_cons (x_call O.o27 hg hr D.g27 D.F27.kp (b27 D) (xa_cons (x_n 1) (xa_cons (x_v (x_var 2)) (xa_cons (x_v (x_var 11)) xa_nil)))) (xl_cons (x_call O.o16 hg hr D.g16 D.F16.kp (b16 D) (xa_cons (x_n 1) (xa_cons (x_v x_int) xa_nil))) xl_nil)))
  (xb_cons (xs_if (xt_not (xt_e (x_v (x_call O.o28 hg hr D.g28 D.F28.kp (b28 D) (xa_cons (x_v (x_var 2)) (xa_cons (x_v (x_var 9)) (xa_cons (x_v (x_var 12)) (xa_cons (x_v (x_var 13)) xa_nil)))))))) (xb_one (xs_ret x_bl)) xb_nil)
  (xb_cons (xs_if (xt_not (xt_e (x_v (x_call O.o29 hg hr D.g29 D.F29.kp (b29 D) (xa_cons (x_v (x_var 2)) (xa_cons (x_v (x_var 7)) (xa_cons (x_v (x_var 9)) (xa_cons (x_v (x_var 12)) (xa_cons (x_v (x_var 13)) xa_nil))))))))) (xb_one (xs_ret x_bl)) xb_nil)
  (xb_cons (xs_if (xt_cmp opr_in (x_n 11) (x_v (x_tup (xl_cons x_int (xl_cons x_int xl_nil))))) (xb_one (xs_if (xt_w (xw_or (xt_not (xt_e (x_v (x_call O.o28 hg hr D.g28 D.F28.kp (b28 D) (xa_cons (x_v (x_var 3)) (xa_cons (x_v (x_var 10)) (xa_cons (x_v (x_var 12)) (xa_cons (x_v (x_var 13)) xa_nil)))))))) (xw_or1 (xt_not (xt_e (x_v (x_call O.o29 hg hr D.g29 D.F29.kp (b29 D) (xa_cons (x_v (x_var 3)) (xa_cons (x_v (x_var 8)) (xa_cons (x_v (x_var 10)) (xa_cons (x_v (x_var 12)) (xa_cons (x_v (x_var 13)) xa_nil)))))))))))) (xb_one (xs_ret x_bl)) xb_nil)) xb_nil)
  (xb_one (xs_if (xt_eq (u64 hr) (x_n 11) (x_v x_int)) (xb_cons (xs_asg 12 S.nd (x_slA (x_n 12) (x_neg (x_v x_int))))
  (xb_cons (xs_if (xt_not (xt_e (x_v (x_call O.o28 hg hr D.g28 D.F28.kp (b28 D) (xa_cons (x_v (x_var 2)) (xa_cons (x_v (x_var 9)) (xa_cons (x_v (x_var 12)) (xa_cons (x_v (x_bin opr_sub (x_v x_int) (x_n 13))) xa_nil)))))))) (xb_one (xs_ret x_bl)) xb_nil)
  (xb_cons (xs_if (xt_not (xt_e (x_v (x_call O.o28 hg hr D.g28 D.F28.kp (b28 D) (xa_cons (x_v (x_var 2)) (xa_cons (x_v (x_var 9)) (xa_cons (x_v (x_var 12)) (xa_cons (x_v (x_var 13)) xa_nil)))))))) (xb_one (xs_ret x_bl)) xb_nil)
  (xb_cons (xs_if (xt_not (xt_e (x_v (x_call O.o29 hg hr D.g29 D.F29.kp (b29 D) (xa_cons (x_v (x_var 2)) (xa_cons (x_v (x_var 7)) (xa_cons (x_v (x_var 9)) (xa_cons (x_v (x_var 12)) (xa_cons (x_v (x_bin opr_sub (x_v x_int) (x_n 13))) xa_nil))))))))) (xb_one (xs_ret x_bl)) xb_nil)
  (xb_one (xs_if (xt_not (xt_e (x_v (x_call O.o29 hg hr D.g29 D.F29.kp (b29 D) (xa_cons (x_v (x_var 2)) (xa_cons (x_v (x_var 7)) (xa_cons (x_v (x_var 9)) (xa_cons (x_v (x_var 12)) (xa_cons (x_v (x_var 13)) xa_nil))))))))) (xb_one (xs_ret x_bl)) xb_nil)))))) xb_nil)))))))
  (xb_one (xs_ret (x_and (x_call O.o28 hg hr D.g28 D.F28.kp (b28 D) (xa_cons (x_v (x_var 2)) (xa_cons (x_v (x_var 9)) (xa_cons (x_v (x_str)) (xa_cons (x_v x_int) xa_nil))))) (x_one (x_call O.o29 hg hr D.g29 D.F29.kp (b29 D) (xa_cons (x_v (x_var 2)) (xa_cons (x_v (x_var 7)) (xa_cons (x_v (x_var 9)) (xa_cons (x_v (x_str)) (xa_cons (x_v x_int) xa_nil)))))))))))))))))))))
theorem ok_all (D : Facts K mg adr fds) : ∀ n, Ok Pg w K mg base EK adr fds n
  | 0 => ⟨fn_ok0, fn_ok0, fn_ok0, fn_ok0, fn_ok0, fn_ok0, fn_ok0, fn_ok0, fn_ok0, fn_ok0, fn_ok0, fn_ok0, fn_ok0, fn_ok0, fn_ok0, fn_ok0, fn_ok0, fn_ok0, fn_ok0, fn_ok0, fn_ok0, fn_ok0, fn_ok0, fn_ok0, fn_ok0, fn_ok0, fn_ok0, fn_ok0, fn_ok0, fn_ok0, fn_ok0, fn_ok0, fn_ok0⟩
  | n + 1 => have O := ok_all D n
    ⟨step0 D O, step1 D O, step2 D O, step3 D O, step4 D O, step5 D O, step6 D O, step7 D O, step8 D O, step9 D O, step10 D O, step11 D O, step12 D O, step13 D O, step14 D O, step15 D O, step16 D O, step17 D O, step18 D O, step19 D O, step20 D O, step21 D O, step22 D O, step23 D O, step24 D O, step25 D O, step26 D O, step27 D O, step28 D O, step29 D O, step30 D O, step31 D O, step32 D O⟩
end
end G
end

section
set_option Elab.async false
set_option linter.all false
set_option maxRecDepth 100000
set_option maxHeartbeats 1000000
/-! The evaluator's rules for simp. -/
namespace Ev
open PySem
/-- a text from its signs -/
abbrev str (l : List Nat) : PyData := .str ⟨l.toArray⟩
section
variable {cl : Cl} {e : En} {α β : Type}
@[simp] theorem s_bind {a : α} {k : α → R β} : (R.ok a).bind k = k a := id rfl
@[simp] theorem s_cK {d : PyData} : cK d cl e = .ok (e, .f, d) := id rfl
@[simp] theorem s_gt0 {v : Option Vl} {r : En} : gt (v :: r) 0 = v := id rfl
@[simp] theorem s_gtS {v : Option Vl} {r : En} {n : Nat} : gt (v :: r) (n + 1) = gt r n := id rfl
@[simp] theorem s_st0 {v x : Option Vl} {r : En} : st (v :: r) 0 x = x :: r := id rfl
@[simp] theorem s_stS {v x : Option Vl} {r : En} {n : Nat} : st (v :: r) (n + 1) x = v :: st r n x := id rfl
@[simp] theorem s_var {i : Nat} : cVar i cl e = match gt e i with
  | some (.f, d) => .ok (e, .f, d)
  | some (.o, d) => .ok (st e i (some (.f, d)), .f, d)
  | some (.b, d) => .ok (st e i (some (.f, d)), .f, d)
  | _ => .no := id rfl
@[simp] theorem s_ar0 : arRun [] cl e = .ok (e, []) := id rfl
@[simp] theorem s_arv {c : CE} {r : List Ar} : arRun (.v c :: r) cl e = (c cl e).bind fun p => (arRun r cl p.1).bind fun q => .ok (q.1, some p.2 :: q.2) := id rfl
@[simp] theorem s_arn {i : Nat} {r : List Ar} : arRun (.n i :: r) cl e = match gt e i with
    | some _ => (arRun r cl e).bind fun q => .ok (q.1, none :: q.2)
    | none => .no := id rfl
@[simp] theorem s_ad0 {xs : List (Option Vl)} : arDat [] e xs = some [] := id rfl
@[simp] theorem s_adv {c : CE} {r : List Ar} {x : Vl} {xs : List (Option Vl)} : arDat (.v c :: r) e (some x :: xs) = (arDat r e xs).map (x.2 :: ·) := id rfl
@[simp] theorem s_adn {i : Nat} {r : List Ar} {x : Option Vl} {xs : List (Option Vl)} : arDat (.n i :: r) e (x :: xs) = match gt e i with
    | some (.f, d) => (arDat r e xs).map (d :: ·)
    | some (.o, d) => (arDat r e xs).map (d :: ·)
    | some (.l, d) => (arDat r e xs).map (d :: ·)
    | _ => none := id rfl
@[simp] theorem s_opRes {f : OpF} {ds : List PyData} : opRes f e (some ds) = match f ds with
    | some v => .ok (e, v)
    | none => .no := id rfl
@[simp] theorem s_op {f : OpF} {as : List Ar} : cOp f as cl e = (arRun as cl e).bind fun q => opRes f q.1 (arDat as q.1 q.2) := id rfl
@[simp] theorem s_es0 : esRun [] cl e = .ok (e, []) := id rfl
@[simp] theorem s_esS {c : CE} {r : List CE} : esRun (c :: r) cl e = (c cl e).bind fun p => (esRun r cl p.1).bind fun q => .ok (q.1, p.2 :: q.2) := id rfl
@[simp] theorem s_tup {cs : List CE} : cTup cs cl e = (esRun cs cl e).bind fun q => .ok (q.1, .f, .tuple (q.2.map (·.2))) := id rfl
@[simp] theorem s_lst {cs : List CE} : cLst cs cl e = (esRun cs cl e).bind fun q => .ok (q.1, lstOw q.2, .list (q.2.map (·.2))) := id rfl
@[simp] theorem s_lo0 : lstOw [] = .o := id rfl
@[simp] theorem s_lof {d : PyData} {r : List Vl} : lstOw ((.f, d) :: r) = .o := id rfl
@[simp] theorem s_lob {ds : List PyData} {r : List Vl} : lstOw ((.o, .list ds) :: r) = .b := id rfl
@[simp] theorem s_tE {a : Ar} : ctE a cl e = (arRun [a] cl e).bind fun q => match arDat [a] q.1 q.2 with
  | some [d] => match truth d with
    | some b => .ok (q.1, b)
    | none => .no
  | _ => .no := id rfl
@[simp] theorem s_tB {c : CE} : ctB c cl e = (c cl e).bind fun p => match p.2 with
  | (.f, .bool b) => .ok (p.1, b)
  | _ => .no := id rfl
@[simp] theorem s_tNot {t : CT} : ctNot t cl e = (t cl e).bind fun p => .ok (p.1, !p.2) := id rfl
@[simp] theorem s_tAnd {t u : CT} : ctAnd t u cl e = (t cl e).bind fun p => match p.2 with
  | true => u cl p.1
  | false => .ok (p.1, false) := id rfl
@[simp] theorem s_tOr {t u : CT} : ctOr t u cl e = (t cl e).bind fun p => match p.2 with
  | true => .ok (p.1, true)
  | false => u cl p.1 := id rfl
@[simp] theorem s_ifE {t : CT} {a b : CE} : cIfE t a b cl e = (t cl e).bind fun p => match p.2 with
  | true => a cl p.1
  | false => b cl p.1 := id rfl
@[simp] theorem s_cNot {a : Ar} : cNot a cl e = (ctE a cl e).bind fun p => .ok (p.1, .f, .bool (!p.2)) := id rfl
@[simp] theorem s_cAnd {a b : CE} : cAnd a b cl e = (a cl e).bind fun p => match truth p.2.2 with
  | some true => b cl p.1
  | some false => .ok (p.1, .f, p.2.2)
  | none => .no := id rfl
@[simp] theorem s_trB {b : Bool} : truth (.bool b) = some b := id rfl
@[simp] theorem s_meth {ty : PyData → Bool} {f : OpF} {c : CE} {as : List Ar} : cMeth ty f (.v c) as cl e = (c cl e).bind fun p => if ty p.2.2 = true then (arRun as cl p.1).bind fun q => opRes f q.1 ((arDat as q.1 q.2).map (p.2.2 :: ·)) else .no := id rfl
@[simp] theorem s_methN {ty : PyData → Bool} {f : OpF} {i : Nat} {as : List Ar} : cMeth ty f (.n i) as cl e = match gt e i with
    | some x => if ty x.2 = true then cOp f (.n i :: as) cl e else .no
    | none => .no := id rfl
@[simp] theorem s_int {c : CE} : cInt c cl e = (c cl e).bind fun p => match p.2.2 with
  | .int _ => .ok p
  | _ => .no := id rfl
@[simp] theorem s_mut {f : MuF} {i : Nat} {as : List Ar} : cMut f i as cl e = match gt e i with
  | some (.o, .list _) => (arRun as cl e).bind fun q => match arDat as q.1 q.2 with
    | some ds => muRes f i q.1 ds
    | none => .no
  | _ => .no := id rfl
@[simp] theorem s_muRes {f : MuF} {i : Nat} {ds : List PyData} : muRes f i e ds = match gt e i with
  | some (.o, d) => match f d ds with
    | some (d', r) => .ok (st e i (some (.o, d')), .f, r)
    | none => .no
  | _ => .no := id rfl
@[simp] theorem s_cg0 {xs : List (Option Vl)} : caGet [] e xs = some [] := id rfl
@[simp] theorem s_cgv {c : CE} {r : List Ar} {x : Vl} {xs : List (Option Vl)} : caGet (.v c :: r) e (some x :: xs) = (caGet r e xs).map ((.f, x.2) :: ·) := id rfl
@[simp] theorem s_cgn {i : Nat} {r : List Ar} {x : Option Vl} {xs : List (Option Vl)} : caGet (.n i :: r) e (x :: xs) = match gt e i with
    | some x => (caGet r e xs).map (x :: ·)
    | none => none := id rfl
@[simp] theorem s_cb0 {fs : List Vl} : caBack [] fs e = some e := id rfl
@[simp] theorem s_cbS {i j : Nat} {r : List (Nat × Nat)} {fs : List Vl} : caBack ((i, j) :: r) fs e = match gt e i, fs[j]? with
    | some (.o, _), some f => (caBack r fs e).map fun e' => st e' i (some f)
    | some (.b, _), some f => (caBack r fs e).map fun e' => st e' i (some f)
    | some (.f, _), some _ => caBack r fs e
    | some (.l, _), some _ => caBack r fs e
    | _, _ => none := id rfl
def callB (v : Vl) : Option En → R (En × Vl)
  | some e' => .ok (e', v)
  | none => .no
def callE (back : List (Nat × Nat)) (e : En) : R (Vl × List Vl) → R (En × Vl)
  | .ok (v, fs) => callB v (caBack back fs e)
  | .ex c d _ => .ex c d (caDrop back e)
  | .no => .no
def callG (cl : Cl) (f : Nat) (back : List (Nat × Nat)) (e : En) : Option (List Vl) → R (En × Vl)
  | some xs => callE back e (cl f xs)
  | none => .no
@[simp] theorem s_callG {f : Nat} {back : List (Nat × Nat)} {xs : List Vl} : callG cl f back e (some xs) = callE back e (cl f xs) := id rfl
@[simp] theorem s_callE {back : List (Nat × Nat)} {v : Vl} {fs : List Vl} : callE back e (.ok (v, fs)) = callB v (caBack back fs e) := id rfl
@[simp] theorem s_callB {v : Vl} {e' : En} : callB v (some e') = .ok (e', v) := id rfl
@[simp] theorem s_call {f : Nat} {back : List (Nat × Nat)} {as : List Ar} : cCall f back as cl e = (arRun as cl e).bind fun q => callG cl f back q.1 (caGet as q.1 q.2) := id rfl
def callK (e : En) : R (Vl × List Vl) → R (En × Vl)
  | .ok (v, _) => .ok (e, v)
  | .ex c d _ => .ex c d e
  | .no => .no
@[simp] theorem s_callK1 {v : Vl} {fs : List Vl} : callK e (.ok (v, fs)) = .ok (e, v) := id rfl
@[simp] theorem s_callK {f : Nat} {perm : List Nat} {cs : List CE} : cCallK f perm cs cl e = (esRun cs cl e).bind fun q => callK q.1 (cl f (perm.map fun k => (.f, (q.2.getD k (.f, .none)).2))) := id rfl
/-- a slot that no loop has locked -/
def nl : Option Vl → Bool
  | some (.l, _) => false
  | _ => true
@[simp] theorem nl_n : nl none = true := rfl
@[simp] theorem nl_f {d : PyData} : nl (some (.f, d)) = true := rfl
@[simp] theorem nl_o {d : PyData} : nl (some (.o, d)) = true := rfl
@[simp] theorem nl_b {d : PyData} : nl (some (.b, d)) = true := rfl
@[simp] theorem nl_l {d : PyData} : nl (some (.l, d)) = false := rfl
@[simp] theorem s_tgn {i : Nat} {d : PyData} : tgSet (.n i) d e = if nl (gt e i) = true then some (st e i (some (.f, d))) else none := by
  rw [tgSet]
  rcases gt e i with _ | ⟨_ | _ | _ | _, d⟩ <;> rfl
@[simp] theorem s_tgt {l : List Tg} {ds : List PyData} : tgSet (.t l) (.tuple ds) e = tgSetAll l ds e := by rw [tgSet]
@[simp] theorem s_ta0 : tgSetAll [] [] e = some e := by rw [tgSetAll]
@[simp] theorem s_taS {t : Tg} {l : List Tg} {d : PyData} {ds : List PyData} : tgSetAll (t :: l) (d :: ds) e = match tgSet t d e with
    | some e' => tgSetAll l ds e'
    | none => none := by
  first
    | (rw [tgSetAll]; done)
    | (rw [tgSetAll]; cases tgSet t d e <;> rfl)
@[simp] theorem s_cNx : cNx cl e = .ok (e, .nx) := id rfl
@[simp] theorem s_cBk : cBk cl e = .ok (e, .bk) := id rfl
@[simp] theorem s_cCt : cCt cl e = .ok (e, .ct) := id rfl
@[simp] theorem s_sq {a b : CS} : cSq a b cl e = (a cl e).bind fun p => match p.2 with
  | .nx => b cl p.1
  | .bk => .ok (p.1, .bk)
  | .ct => .ok (p.1, .ct)
  | .rt v => .ok (p.1, .rt v) := id rfl
@[simp] theorem s_do {c : CE} : cDo c cl e = (c cl e).bind fun p => .ok (p.1, .nx) := id rfl
@[simp] theorem s_ret {c : CE} : cRet c cl e = (c cl e).bind fun p => .ok (p.1, .rt p.2) := id rfl
@[simp] theorem s_mov {i : Nat} : cMov i cl e = match gt e i with
  | some (.l, _) => .no
  | some x => .ok (st e i none, .rt x)
  | none => .no := id rfl
@[simp] theorem s_if {t : CT} {a b : CS} : cIf t a b cl e = (t cl e).bind fun p => match p.2 with
  | true => a cl p.1
  | false => b cl p.1 := id rfl
@[simp] theorem s_asgN {i : Nat} {x : Vl} : asgN i x e = if nl (gt e i) = true then some (st e i (some x)) else none := by
  unfold asgN
  rcases gt e i with _ | ⟨_ | _ | _ | _, d⟩ <;> rfl
@[simp] theorem s_asg {i : Nat} {c : CE} : cAsg i c cl e = (c cl e).bind fun p => match asgN i p.2 p.1 with
  | some e' => .ok (e', .nx)
  | none => .no := id rfl
@[simp] theorem s_unp {tg : Tg} {c : CE} : cUnp tg c cl e = (c cl e).bind fun p => match tgSet tg p.2.2 p.1 with
  | some e' => .ok (e', .nx)
  | none => .no := id rfl
@[simp] theorem s_aa0 : asgAll [] [] e = some e := id rfl
@[simp] theorem s_aaS {i : Nat} {is : List Nat} {x : Vl} {xs : List Vl} : asgAll (i :: is) (x :: xs) e = (asgN i x e).bind fun e' => asgAll is xs e' := id rfl
@[simp] theorem s_par {is : List Nat} {cs : List CE} : cPar is cs cl e = (esRun cs cl e).bind fun q => match asgAll is q.2 q.1 with
  | some e' => .ok (e', .nx)
  | none => .no := id rfl
@[simp] theorem s_itRun {as : List Ar} {f : List PyData → Option (List PyData)} : itRun ⟨as, f⟩ cl e = (arRun as cl e).bind fun q => match arDat as q.1 q.2 with
  | some ds => match f ds with
    | some xs => .ok (q.1, xs)
    | none => .no
  | none => .no := id rfl
@[simp] theorem s_lk0 : lockL [] e = some e := id rfl
@[simp] theorem s_lkv {c : CE} {r : List Ar} : lockL (.v c :: r) e = lockL r e := id rfl
@[simp] theorem s_lkn {i : Nat} {r : List Ar} : lockL (.n i :: r) e = match gt e i with
    | some (.o, d) => lockL r (st e i (some (.l, d)))
    | some (.f, _) => lockL r e
    | some (.l, _) => lockL r e
    | _ => none := id rfl
@[simp] theorem s_ul1 {i : Nat} : unlock1 i e = match gt e i with
  | some (.l, d) => some (st e i (some (.o, d)))
  | _ => none := id rfl
@[simp] theorem s_ul0 {e0 : En} : unlockL [] e0 e = some e := id rfl
@[simp] theorem s_ulv {c : CE} {r : List Ar} {e0 : En} : unlockL (.v c :: r) e0 e = unlockL r e0 e := id rfl
@[simp] theorem s_uln {i : Nat} {r : List Ar} {e0 : En} : unlockL (.n i :: r) e0 e = match gt e0 i with
    | some (.o, d) => (unlockL r (st e0 i (some (.l, d))) e).bind (unlock1 i)
    | _ => unlockL r e0 e := id rfl
@[simp] theorem s_w0 : wipeE [] e = e := id rfl
@[simp] theorem s_wS {i : Nat} {r : List Nat} : wipeE (i :: r) e = st (wipeE r e) i none := id rfl
@[simp] theorem s_of0 : ownFz [] e = true := id rfl
@[simp] theorem s_ofS {i : Nat} {r : List Nat} : ownFz (i :: r) e = ((match gt e i with
    | none => true
    | some (.f, _) => true
    | _ => false) && ownFz r e) := id rfl
@[simp] theorem s_be0 {e0 : En} : backE [] e0 e = e := id rfl
@[simp] theorem s_beS {i : Nat} {r : List Nat} {e0 : En} : backE (i :: r) e0 e = st (backE r e0 e) i (gt e0 i) := id rfl
@[simp] theorem s_yes : ctYes cl e = .ok (e, true) := id rfl
@[simp] theorem s_fin0 : finals e [] = some [] := id rfl
@[simp] theorem s_finS {i : Nat} {r : List Nat} : finals e (i :: r) = match gt e i with
    | some x => (finals e r).map (x :: ·)
    | none => none := id rfl
@[simp] theorem s_ixN {f : OpF} {i : Nat} {k : Int} : cIxN f i k cl e = match gt e i with
  | some (.b, .list (.list es :: ds)) => if k = 0 then .ok (st e i (some (.o, .list (.list es :: ds))), .f, .list es) else if 0 < k then match ds[k.toNat - 1]? with
      | some d => .ok (e, .f, d)
      | none => .no
    else .no
  | some (.b, _) => .no
  | _ => cOp f [.n i, .v (cK (.int k))] cl e := id rfl
@[simp] theorem s_ixNil {g f : OpF} {i : Nat} {ne : Bool} : cIxNil g f i ne cl e = match gt e i with
  | some (.b, .list (.list es :: _)) => .ok (e, .f, .bool (ne != es.isEmpty))
  | _ => cOp g [.v (cIxN f i 0), .v (cLst [])] cl e := id rfl
@[simp] theorem s_pop0 {i : Nat} : cPop0 i cl e = match gt e i with
  | some (.b, .list (.list ds :: r)) => match ds.getLast? with
    | some d => .ok (st e i (some (.b, .list (.list ds.dropLast :: r))), .f, d)
    | none => .no
  | _ => .no := id rfl
@[simp] theorem s_set {f : SeF} {i : Nat} {k : Ar} {c : CE} : cSet f i k c cl e = (c cl e).bind fun p => match gt p.1 i with
  | some _ => (arRun [k] cl p.1).bind fun q => match arDat [k] q.1 q.2 with
    | some ds => seRes f i q.1 p.2.2 (ds.headD .none)
    | none => .no
  | none => .no := id rfl
@[simp] theorem s_seO {f : SeF} {i : Nat} {v kd : PyData} : seRes f i e v kd = match gt e i with
  | some (.o, d) => match f d kd v with
    | some d' => .ok (st e i (some (.o, d')), .nx)
    | none => .no
  | some (.b, .list (.list es :: ds)) => match kd with
    | .int z => if 0 < z ∧ z < (ds.length : Int) + 1 then .ok (st e i (some (.b, .list (.list es :: ds.set (z.toNat - 1) v))), .nx) else .no
    | _ => .no
  | _ => .no := id rfl
/-- a call of a function of the table, one deep -/
theorem clN_run {tab : Nat → Option Fn} {n f : Nat} {np ns : Nat} {io : List Nat} {b : CS} {xs : List Vl} (h : tab f = some ⟨np, ns, io, noEx b⟩) : clN tab (n + 1) f xs =
    if xs.length = np then match b (clN tab n) (xs.map some ++ List.replicate (ns - np) none) with
    | .ok (e, .rt v) => match finals e io with
      | some fs => .ok (v, fs)
      | none => .no
    | .ok (e, .nx) => match finals e io with
      | some fs => .ok ((.f, .none), fs)
      | none => .no
    | .ok (_, .bk) => .no
    | .ok (_, .ct) => .no
    | .ex _ _ _ => .no
    | .no => .no
    else .no := by
  show (match tab f with
    | some fn => fnRun fn (clN tab n) xs
    | none => .no) = _
  rw [h]
  unfold fnRun
  by_cases hl : xs.length = np
  · simp only [hl, if_true]
    unfold noEx
    cases q : b (clN tab n) (xs.map some ++ List.replicate (ns - np) none) with
    | ok p =>
      obtain ⟨e, fl⟩ := p
      cases fl <;> rfl
    | ex _ _ _ => rfl
    | no => rfl
  · simp only [hl, if_false]
/-! ### comprehensions and loops -/
/-- a comprehension: what each item gives, when it leaves the slots alone but the block's own -/
theorem lcL_map {tg : Tg} {own : List Nat} {t : CT} {c : CE} {α : Type} (k : α → PyData) (p : α → Bool) (g : α → PyData) (S : En → Prop)
    (h : ∀ e a, S e → ∃ e1, tgSet tg (k a) (wipeE own e) = some e1 ∧ ∃ e2, t cl e1 = .ok (e2, p a) ∧ if p a = true then ∃ e3 ow, c cl e2 = .ok (e3, ow, g a) ∧ S e3 else S e2) :
    ∀ (as : List α) (e : En) (acc : List PyData), S e → ∃ e', S e' ∧ lcL tg own t c cl (as.map k) e acc = .ok (e', acc ++ (as.filter p).map g)
  | [], e, acc, hs => ⟨e, hs, by simp [lcL]⟩
  | a :: as, e, acc, hs => by
    obtain ⟨e1, h1, e2, h2, h3⟩ := h e a hs
    cases hp : p a with
    | true =>
      rw [hp, if_pos rfl] at h3
      obtain ⟨e3, ow, h3, h4⟩ := h3
      obtain ⟨e', h5, h6⟩ := lcL_map k p g S h as e3 (acc ++ [g a]) h4
      refine ⟨e', h5, ?_⟩
      rw [List.map_cons, lcL, h1]
      simp only [h2, hp, s_bind, h3, h6]
      simp [hp]
    | false =>
      rw [hp, if_neg (by simp)] at h3
      obtain ⟨e', h5, h6⟩ := lcL_map k p g S h as e2 acc h3
      refine ⟨e', h5, ?_⟩
      rw [List.map_cons, lcL, h1]
      simp only [h2, hp, s_bind, h6]
      simp [hp]
theorem forL_inv {tg : Tg} {body : CS} {α : Type} (k : α → PyData) (I : List α → En → Prop)
    (h : ∀ a r e, I (a :: r) e → ∃ e1, tgSet tg (k a) e = some e1 ∧ ∃ e2, body cl e1 = .ok (e2, .nx) ∧ I r e2) :
    ∀ (as : List α) (e : En), I as e → ∃ e', I [] e' ∧ forL tg body cl (as.map k) e = .ok (e', .nx)
  | [], e, hi => ⟨e, hi, rfl⟩
  | a :: as, e, hi => by
    obtain ⟨e1, h1, e2, h2, h3⟩ := h a as e hi
    obtain ⟨e', h4, h5⟩ := forL_inv k I h as e2 h3
    refine ⟨e', h4, ?_⟩
    rw [List.map_cons, forL, h1]
    simp only [h2, s_bind, h5]
/-- a loop with a break: Q holds at the end either way -/
theorem forL_brk {tg : Tg} {body : CS} {α : Type} (k : α → PyData) (I : List α → En → Prop) (Q : En → Prop) (hn : ∀ e, I [] e → Q e)
    (h : ∀ a r e, I (a :: r) e → ∃ e1, tgSet tg (k a) e = some e1 ∧ ((∃ e2, body cl e1 = .ok (e2, .nx) ∧ I r e2) ∨ ∃ e2, body cl e1 = .ok (e2, .bk) ∧ Q e2)) :
    ∀ (as : List α) (e : En), I as e → ∃ e', Q e' ∧ forL tg body cl (as.map k) e = .ok (e', .nx)
  | [], e, hi => ⟨e, hn e hi, rfl⟩
  | a :: as, e, hi => by
    obtain ⟨e1, h1, ⟨e2, h2, h3⟩ | ⟨e2, h2, h3⟩⟩ := h a as e hi
    · obtain ⟨e', h4, h5⟩ := forL_brk k I Q hn h as e2 h3
      refine ⟨e', h4, ?_⟩
      rw [List.map_cons, forL, h1]
      simp only [h2, s_bind, h5]
    · refine ⟨e2, h3, ?_⟩
      rw [List.map_cons, forL, h1]
      simp only [h2, s_bind]
end
end Ev
end

section
set_option Elab.async false
set_option linter.all false
set_option maxRecDepth 100000
set_option maxHeartbeats 1000000
/-! Comprehensions that leave the slots alone. -/
namespace Ev
open PySem
theorem st_lenX : ∀ (e : En) (i : Nat) (x : Option Vl), (st e i x).length = e.length
  | [], _, _ => rfl
  | _ :: _, 0, _ => rfl
  | _ :: r, n + 1, x => congrArg (· + 1) (st_lenX r n x)
theorem gt_stX : ∀ (e : En) (i j : Nat) (x : Option Vl), gt (st e i x) j = if i = j ∧ i < e.length then x else gt e j
  | [], _, _, _ => by simp [st]
  | v :: r, 0, 0, x => by simp
  | v :: r, 0, j + 1, x => by simp
  | v :: r, i + 1, 0, x => by simp
  | v :: r, i + 1, j + 1, x => by simp [gt_stX r i j x]
theorem gt_out : ∀ (e : En) (j : Nat), e.length ≤ j → gt e j = none
  | [], _, _ => rfl
  | _ :: r, 0, h => by simp at h
  | _ :: r, j + 1, h => gt_out r j (by simpa using h)
theorem gt_ext : ∀ {e e' : En}, e.length = e'.length → (∀ j, gt e j = gt e' j) → e = e'
  | [], [], _, _ => rfl
  | [], _ :: _, h, _ => by simp at h
  | _ :: _, [], h, _ => by simp at h
  | v :: r, v' :: r', hl, h => by
    have h0 : v = v' := h 0
    rw [h0, gt_ext (by simpa using hl) fun j => h (j + 1)]
theorem wipe_len : ∀ (own : List Nat) (e : En), (wipeE own e).length = e.length
  | [], _ => rfl
  | i :: r, e => by rw [wipeE, st_lenX, wipe_len]
theorem back_len : ∀ (own : List Nat) (e0 e : En), (backE own e0 e).length = e.length
  | [], _, _ => rfl
  | i :: r, e0, e => by rw [backE, st_lenX, back_len]
theorem gt_wipe : ∀ (own : List Nat) (e : En) (j : Nat), gt (wipeE own e) j = if j ∈ own then none else gt e j
  | [], e, j => by simp
  | i :: r, e, j => by
    rw [wipeE, gt_stX, gt_wipe r e j, wipe_len]
    by_cases hj : i = j
    · subst hj
      by_cases hl : i < e.length
      · simp [hl]
      · simp [hl, gt_out e i (by omega)]
    · simp [hj, Ne.symm hj]
theorem gt_back : ∀ (own : List Nat) (e0 e : En) (j : Nat), e0.length = e.length → gt (backE own e0 e) j = if j ∈ own then gt e0 j else gt e j
  | [], e0, e, j, _ => by simp
  | i :: r, e0, e, j, h => by
    rw [backE, gt_stX, gt_back r e0 e j h, back_len]
    by_cases hj : i = j
    · subst hj
      by_cases hl : i < e.length
      · simp [hl]
      · simp [hl, gt_out e i (by omega), gt_out e0 i (by omega)]
    · simp [hj, Ne.symm hj]
theorem back_wiped {own : List Nat} {e1 e : En} (h : wipeE own e = wipeE own e1) : backE own e1 e = e1 := by
  have hl : e1.length = e.length := by rw [← wipe_len own e1, ← h, wipe_len]
  refine gt_ext (by rw [back_len, hl]) fun j => ?_
  rw [gt_back own e1 e j hl]
  by_cases hj : j ∈ own
  · simp [hj]
  · simp only [hj, if_false]
    have := congrArg (gt · j) h
    simpa [gt_wipe, hj] using this
theorem unlock_lock : ∀ {as : List Ar} {e e1 : En}, lockL as e = some e1 → unlockL as e e1 = some e
  | [], e, e1, h => by
    cases h
    rfl
  | .v _ :: r, e, e1, h => by
    show unlockL r e e1 = _
    exact unlock_lock (as := r) h
  | .n i :: r, e, e1, h => by
    rw [s_lkn] at h
    rw [s_uln]
    rcases q : gt e i with _ | ⟨ow, d⟩
    · rw [q] at h; cases h
    · rw [q] at h
      cases ow with
      | b => cases h
      | f => exact unlock_lock (as := r) h
      | l => exact unlock_lock (as := r) h
      | o =>
        simp only at h ⊢
        rw [unlock_lock (as := r) h]
        have hi : i < e.length := by
          by_cases hi : i < e.length
          · exact hi
          · rw [gt_out e i (by omega)] at q; cases q
        show unlock1 i _ = _
        rw [s_ul1, gt_stX]
        simp only [hi, and_self, if_true]
        congr 1
        refine gt_ext (by simp [st_lenX]) fun j => ?_
        rw [gt_stX, gt_stX, st_lenX]
        by_cases hj : i = j
        · subst hj; simp [hi, q]
        · simp [hj]
theorem lc_pure {cl : Cl} {e e1 : En} {as : List Ar} {f : List PyData → Option (List PyData)} {tg : Tg} {own : List Nat} {t : CT} {c : CE} {α : Type} (xs : List α) (k : α → PyData) (p : α → Bool) (g : α → PyData)
    (hr : itRun ⟨as, f⟩ cl e = .ok (e, xs.map k)) (hl : lockL as e = some e1) (hn : xs.length ≤ 16777216) (ho : ownFz own e1 = true)
    (hb : ∀ a ∈ xs, ∃ e2, tgSet tg (k a) (wipeE own e1) = some e2 ∧ ∃ e3, t cl e2 = .ok (e3, p a) ∧ if p a = true then ∃ e4 ow, c cl e3 = .ok (e4, ow, g a) ∧ wipeE own e4 = wipeE own e1 else wipeE own e3 = wipeE own e1) :
    cLC ⟨as, f⟩ tg own t c cl e = .ok (e, .o, .list ((xs.filter p).map g)) := by
  have key : ∀ (ys : List α), (∀ a ∈ ys, a ∈ xs) → ∀ (e' : En) (acc : List PyData), wipeE own e' = wipeE own e1 → ∃ e'', wipeE own e'' = wipeE own e1 ∧ lcL tg own t c cl (ys.map k) e' acc = .ok (e'', acc ++ (ys.filter p).map g) := by
    intro ys
    induction ys with
    | nil => exact fun _ e' acc h => ⟨e', h, by simp [lcL]⟩
    | cons a ys ih =>
      intro hy e' acc hw
      obtain ⟨e2, h1, e3, h2, h3⟩ := hb a (hy a (List.mem_cons_self ..))
      have hy' : ∀ a ∈ ys, a ∈ xs := fun b hb => hy b (List.mem_cons_of_mem _ hb)
      cases hp : p a with
      | true =>
        rw [hp, if_pos rfl] at h3
        obtain ⟨e4, ow, h3, h4⟩ := h3
        obtain ⟨e5, h5, h6⟩ := ih hy' e4 (acc ++ [g a]) h4
        refine ⟨e5, h5, ?_⟩
        rw [List.map_cons, lcL, hw, h1]
        simp only [h2, hp, s_bind, h3, h6]
        simp [hp]
      | false =>
        rw [hp, if_neg (by simp)] at h3
        obtain ⟨e5, h5, h6⟩ := ih hy' e3 acc h3
        refine ⟨e5, h5, ?_⟩
        rw [List.map_cons, lcL, hw, h1]
        simp only [h2, hp, s_bind, h6]
        simp [hp]
  obtain ⟨e2, h1, h2⟩ := key xs (fun _ h => h) e1 [] rfl
  unfold cLC
  rw [hr]
  simp only [s_bind, hl]
  rw [if_pos ⟨by simpa [sizeLine] using hn, ho⟩]
  rw [h2]
  simp only [back_wiped h1, unlock_lock hl, List.nil_append]
/-- one turn of a comprehension -/
def lcStep (tg : Tg) (own : List Nat) (t : CT) (c : CE) (cl : Cl) (e1 : En) (d : PyData) : R (En × Option PyData) := match tgSet tg d (wipeE own e1) with
  | some e2 => (t cl e2).bind fun q => if q.2 = true then (c cl q.1).bind fun r => .ok (wipeE own r.1, some r.2.2) else .ok (wipeE own q.1, none)
  | none => .no
theorem lc_step {cl : Cl} {e e1 : En} {as : List Ar} {f : List PyData → Option (List PyData)} {tg : Tg} {own : List Nat} {t : CT} {c : CE} {α : Type} (xs : List α) (k : α → PyData) (p : α → Bool) (g : α → PyData)
    (hr : itRun ⟨as, f⟩ cl e = .ok (e, xs.map k)) (hl : lockL as e = some e1) (hn : xs.length ≤ 16777216) (ho : ownFz own e1 = true)
    (hb : ∀ a ∈ xs, lcStep tg own t c cl e1 (k a) = .ok (wipeE own e1, if p a = true then some (g a) else none)) :
    cLC ⟨as, f⟩ tg own t c cl e = .ok (e, .o, .list ((xs.filter p).map g)) := by
  refine lc_pure xs k p g hr hl hn ho fun a ha => ?_
  have h := hb a ha
  unfold lcStep at h
  cases h1 : tgSet tg (k a) (wipeE own e1) with
  | none => rw [h1] at h; cases h
  | some e2 =>
    rw [h1] at h
    refine ⟨e2, rfl, ?_⟩
    simp only at h
    cases h2 : t cl e2 with
    | no => rw [h2] at h; cases h
    | ex _ _ _ => rw [h2] at h; cases h
    | ok q =>
      obtain ⟨e3, b⟩ := q
      rw [h2] at h
      simp only [s_bind] at h
      cases b with
      | false =>
        simp only [Bool.false_eq_true, if_false] at h
        injection h with h
        injection h with h3 h4
        cases hp : p a with
        | true => rw [hp] at h4; cases h4
        | false => exact ⟨e3, rfl, by simpa using h3⟩
      | true =>
        simp only [if_true] at h
        cases h5 : c cl e3 with
        | no => rw [h5] at h; cases h
        | ex _ _ _ => rw [h5] at h; cases h
        | ok r =>
          obtain ⟨e4, ow, d⟩ := r
          rw [h5] at h
          simp only [s_bind] at h
          injection h with h
          injection h with h3 h4
          cases hp : p a with
          | false => rw [hp] at h4; cases h4
          | true =>
            rw [hp, if_pos rfl] at h4
            injection h4 with h4
            subst h4
            exact ⟨e3, rfl, by rw [if_pos rfl]; exact ⟨e4, ow, h5, h3⟩⟩
theorem lc_all {cl : Cl} {e e1 : En} {as : List Ar} {f : List PyData → Option (List PyData)} {tg : Tg} {own : List Nat} {c : CE} {α : Type} (xs : List α) (k : α → PyData) (g : α → PyData)
    (hr : itRun ⟨as, f⟩ cl e = .ok (e, xs.map k)) (hl : lockL as e = some e1) (hn : xs.length ≤ 16777216) (ho : ownFz own e1 = true)
    (hb : ∀ a ∈ xs, lcStep tg own ctYes c cl e1 (k a) = .ok (wipeE own e1, some (g a))) :
    cLC ⟨as, f⟩ tg own ctYes c cl e = .ok (e, .o, .list (xs.map g)) := by
  rw [lc_step xs k (fun _ => true) g hr hl hn ho fun a ha => by rw [hb a ha]; rfl, List.filter_eq_self.mpr fun _ _ => rfl]
/-- what is walked, without a look at its bounds -/
theorem it_v {cl : Cl} {e e' : En} {c : CE} {f : List PyData → Option (List PyData)} {ow : Ow} {d : PyData} {xs : List PyData} (hc : c cl e = .ok (e', ow, d)) (hf : f [d] = some xs) : itRun ⟨[.v c], f⟩ cl e = .ok (e', xs) := by
  rw [s_itRun, s_arv, hc]
  simp only [s_bind, s_ar0, s_adv, s_ad0, Option.map_some, hf]
theorem it_n {cl : Cl} {e : En} {i : Nat} {f : List PyData → Option (List PyData)} {x : Vl} {xs : List PyData} (h : gt e i = some x) (hb : x.1 ≠ .b) (hf : f [x.2] = some xs) : itRun ⟨[.n i], f⟩ cl e = .ok (e, xs) := by
  obtain ⟨ow, d⟩ := x
  cases ow with
  | b => exact absurd rfl hb
  | f => simp only [s_itRun, s_arn, h, s_bind, s_ar0, s_adn, s_ad0, Option.map_some, hf]
  | o => simp only [s_itRun, s_arn, h, s_bind, s_ar0, s_adn, s_ad0, Option.map_some, hf]
  | l => simp only [s_itRun, s_arn, h, s_bind, s_ar0, s_adn, s_ad0, Option.map_some, hf]
/-- a loop over values, all turns -/
theorem for_v {cl : Cl} {e e' e2 : En} {c : CE} {f : List PyData → Option (List PyData)} {tg : Tg} {body : CS} {xs : List PyData} {fl : Fl} (hr : itRun ⟨[.v c], f⟩ cl e = .ok (e', xs)) (hf : forL tg body cl xs e' = .ok (e2, fl)) : cFor ⟨[.v c], f⟩ tg body cl e = .ok (e2, fl) := by
  unfold cFor
  rw [hr]
  simp only [s_bind, s_lkv, s_lk0, hf, s_ulv, s_ul0]
end Ev
end

section
set_option Elab.async false
set_option linter.all false
set_option maxRecDepth 100000
set_option maxHeartbeats 1000000
/-! Operations on texts given by their signs. -/
namespace Ev
open PySem PyProof.Rows L2
@[simp] theorem ch_str (c : Nat) : chD c = str [c] := id rfl
@[simp] theorem upto0 (n : Nat) : upto 0 n = (List.range n).map fun (i : Nat) => PyData.int (i : Int) := by
  unfold upto
  simp
theorem str_inj {a b : List Nat} : (str a = str b) ↔ a = b := by
  constructor
  · intro h
    injection h with h
    injection h with h
    simpa using congrArg Array.toList h
  · intro h; rw [h]
theorem slen {l : List Nat} : Str.length ⟨l.toArray⟩ = l.length := by simp [Str.length]
theorem o_len {l : List Nat} (h : l.length ≤ 16777216) : fLen [str l] = some (.f, .int l.length) := by
  show (if Str.length ⟨l.toArray⟩ ≤ sizeLine then some (Ow.f, PyData.int (Str.length ⟨l.toArray⟩)) else none) = _
  rw [slen, if_pos (by simpa [sizeLine] using h)]
@[simp] theorem o_lenL {ds : List PyData} : fLen [.list ds] = some (.f, .int ds.length) := id rfl
@[simp] theorem o_lenT {ds : List PyData} : fLen [.tuple ds] = some (.f, .int ds.length) := id rfl
@[simp] theorem o_addI {i j : Int} : fAdd [.int i, .int j] = some (.f, .int (i + j)) := id rfl
@[simp] theorem o_subI {i j : Int} : fSub [.int i, .int j] = some (.f, .int (i - j)) := id rfl
theorem o_addS {a b : List Nat} (h : a.length + b.length ≤ 16777216) : fAdd [str a, str b] = some (.f, str (a ++ b)) := by
  show (if Str.length ⟨a.toArray⟩ + Str.length ⟨b.toArray⟩ ≤ sizeLine then some (Ow.f, PyData.str (⟨a.toArray⟩ ++ ⟨b.toArray⟩)) else none) = _
  rw [slen, slen, if_pos (by simpa [sizeLine] using h)]
  show some (Ow.f, PyData.str ⟨a.toArray ++ b.toArray⟩) = _
  simp
@[simp] theorem o_int {i : Int} : fInt [.int i] = some (.f, .int i) := id rfl
@[simp] theorem o_tupL {ds : List PyData} : fTuple [.list ds] = some (.f, .tuple ds) := id rfl
@[simp] theorem o_tupT {ds : List PyData} : fTuple [.tuple ds] = some (.f, .tuple ds) := id rfl
@[simp] theorem o_str {x : Str} : fStr [.str x] = some (.f, .str x) := id rfl
@[simp] theorem o_neg {i : Int} : fNeg [.int i] = some (.f, .int (-i)) := id rfl
@[simp] theorem o_abs {i : Int} : fAbs [.int i] = some (.f, .int (if i < 0 then -i else i)) := id rfl
theorem cut_ab {α : Type} (l : List α) (a b : Nat) : cutD l (some (a : Int)) (some (b : Int)) = (l.drop a).take (b - a) := by
  unfold cutD
  rw [HT.sIx_nat, HT.sIx_nat]
  by_cases h : a ≤ l.length
  · rw [show min a l.length = a from Nat.min_eq_left h]
    by_cases h2 : b ≤ l.length
    · rw [Nat.min_eq_left h2]
    · rw [show min b l.length = l.length from Nat.min_eq_right (by omega)]
      rw [List.take_of_length_le (i := b - a) (by rw [List.length_drop]; omega), List.take_of_length_le (by rw [List.length_drop]; exact Nat.le_refl _)]
  · rw [show min a l.length = l.length from Nat.min_eq_right (by omega), List.drop_of_length_le (i := l.length) (by omega), List.drop_of_length_le (i := a) (by omega)]
    simp
theorem cut_a {α : Type} (l : List α) (a : Nat) : cutD l (some (a : Int)) none = l.drop a := by
  unfold cutD
  rw [HT.sIx_nat, HT.sIx_none]
  by_cases h : a ≤ l.length
  · rw [Nat.min_eq_left h, List.take_of_length_le (by rw [List.length_drop]; exact Nat.le_refl _)]
  · rw [Nat.min_eq_right (by omega)]
    rw [List.drop_of_length_le (i := a) (by omega)]
    simp
theorem cut_b {α : Type} (l : List α) (b : Nat) : cutD l none (some (b : Int)) = l.take b := by
  unfold cutD
  rw [HT.sIx_nat, HT.sIx_none]
  by_cases h : b ≤ l.length
  · rw [Nat.min_eq_left h]
    simp
  · rw [Nat.min_eq_right (by omega), List.take_of_length_le (i := b) (by omega)]
    simp
theorem fSl_str {l : List Nat} {lo hi : Option Int} (h : l.length ≤ 16777216) : fSl lo hi (str l) = some (.f, str (cutD l lo hi)) := by
  show (if Str.length ⟨l.toArray⟩ ≤ sizeLine then some (Ow.f, PyData.str ⟨(cutD l.toArray.toList lo hi).toArray⟩) else none) = _
  rw [slen, if_pos (by simpa [sizeLine] using h)]
theorem o_slA {l : List Nat} {a : Nat} (h : l.length ≤ 16777216) : fSlA [str l, .int (a : Int)] = some (.f, str (l.drop a)) := by
  show fSl (some (a : Int)) none (str l) = _
  rw [fSl_str h, cut_a]
theorem o_slB {l : List Nat} {b : Nat} (h : l.length ≤ 16777216) : fSlB [str l, .int (b : Int)] = some (.f, str (l.take b)) := by
  show fSl none (some (b : Int)) (str l) = _
  rw [fSl_str h, cut_b]
theorem o_slAB {l : List Nat} {a b : Nat} (h : l.length ≤ 16777216) : fSlAB [str l, .int (a : Int), .int (b : Int)] = some (.f, str ((l.drop a).take (b - a))) := by
  show fSl (some (a : Int)) (some (b : Int)) (str l) = _
  rw [fSl_str h, cut_ab]
@[simp] theorem o_slABT {l : List PyData} {a b : Nat} : fSlAB [.tuple l, .int (a : Int), .int (b : Int)] = some (.f, .tuple ((l.drop a).take (b - a))) := by
  show some (Ow.f, PyData.tuple (cutD l _ _)) = _
  rw [cut_ab]
@[simp] theorem o_slBL {l : List PyData} {b : Nat} : fSlB [.list l, .int (b : Int)] = some (.o, .list (l.take b)) := by
  show some (Ow.o, PyData.list (cutD l _ _)) = _
  rw [cut_b]
theorem o_slBm1 {l : List PyData} : fSlB [.list l, .int (-1)] = some (.o, .list l.dropLast) := by
  show some (Ow.o, PyData.list (cutD l none (some (-1 : Int)))) = _
  unfold cutD
  have e : HT.sIx l.length l.length (some (-1 : Int)) = l.length - 1 := by
    show (if (-1 : Int) < 0 then ((-1 : Int) + (l.length : Int)).toNat else min (-1 : Int).toNat l.length) = _
    rw [if_pos (by decide)]
    omega
  rw [e, HT.sIx_none]
  simp [List.dropLast_eq_take]
@[simp] theorem o_ltS {a b : List Nat} : fLt [str a, str b] = some (.f, .bool (decide (a < b))) := id rfl
@[simp] theorem o_ltI {i j : Int} : fLt [.int i, .int j] = some (.f, .bool (decide (i < j))) := id rfl
@[simp] theorem o_gtI {i j : Int} : fGt [.int i, .int j] = some (.f, .bool (decide (j < i))) := id rfl
@[simp] theorem o_geI {i j : Int} : fGe [.int i, .int j] = some (.f, .bool (decide (j ≤ i))) := id rfl
theorem cnt_is (c : Nat) (l : List Nat) : cnt c l = (l.count c : Nat) := by
  induction l with
  | nil => rfl
  | cons a l ih =>
    rw [cnt_cons, ih, List.count_cons]
    by_cases h : a = c
    · simp [h]; omega
    · simp [h]
@[simp] theorem o_count {l : List Nat} {c : Nat} : fCount [str l, str [c]] = some (.f, .int (l.count c : Nat)) := by
  show some (Ow.f, PyData.int (Txt.count ⟨l.toArray⟩ ⟨#[c]⟩)) = _
  rw [count_cnt, cnt_is]
@[simp] theorem o_starts {l x : List Nat} : fStarts [str l, str x] = some (.f, .bool (x.isPrefixOf l)) := by
  show some (Ow.f, PyData.bool (Txt.startswith ⟨l.toArray⟩ ⟨x.toArray⟩)) = _
  congr 3
  unfold Txt.startswith Builtin.Str.subAt
  rw [slen, slen]
  rw [Bool.eq_iff_iff, Bool.and_eq_true, decide_eq_true_eq, beq_iff_eq, List.isPrefixOf_iff_prefix]
  simp only [Nat.zero_add]
  constructor
  · intro ⟨h1, h2⟩
    have h3 := congrArg Array.toList h2
    simp at h3
    exact ⟨l.drop x.length, by
      have := List.take_append_drop x.length l
      rwa [h3] at this⟩
  · intro h
    obtain ⟨r, rfl⟩ := h
    refine ⟨by simp, ?_⟩
    apply Array.ext'
    simp
@[simp] theorem i_strV {l : List Nat} : itV [str l] = some (l.map fun c => str [c]) := id rfl
@[simp] theorem i_listV {l : List PyData} : itV [.list l] = some l := id rfl
@[simp] theorem i_tupV {l : List PyData} : itV [.tuple l] = some l := id rfl
theorem i_R1 {n : Nat} (h : n ≤ 16777216) : itR1 [.int (n : Int)] = some ((List.range n).map fun (i : Nat) => PyData.int (i : Int)) := by
  show (if inR (n : Int) = true then some (upto 0 (n : Int).toNat) else none) = _
  rw [if_pos (by unfold inR; simp; omega), Int.toNat_natCast, upto0]
theorem i_R1m {j : Int} (h : j ≤ 0) (h2 : -16777216 ≤ j) : itR1 [.int j] = some [] := by
  show (if inR j = true then some (upto 0 j.toNat) else none) = _
  rw [if_pos (by unfold inR; simp; omega), show j.toNat = 0 by omega, upto0]
  rfl
theorem enum0 (ds : List PyData) : enumD 0 ds = ds.zipIdx.map fun p => .tuple [.int (p.2 : Int), p.1] := by
  unfold enumD
  simp
theorem i_E {d : PyData} : itE [d] = (itemsD d).map (enumD 0) := id rfl
theorem atI_nat {α : Type} (xs : List α) (k : Nat) : atI xs (k : Int) = xs[k]? := by
  unfold atI ixN
  rw [if_pos (by omega)]
  by_cases h : k < xs.length
  · rw [if_pos (by omega)]; simp
  · rw [if_neg (by omega), List.getElem?_eq_none (by omega)]; rfl
theorem atI_m1 {α : Type} (xs : List α) : atI xs (-1) = xs.getLast? := by
  unfold atI ixN
  rw [if_neg (by decide)]
  by_cases h : xs = []
  · subst h; rfl
  · have : 0 < xs.length := List.length_pos_iff.mpr h
    rw [if_pos (by omega), List.getLast?_eq_getElem?]
    simp
    congr 1
    omega
@[simp] theorem o_ixL {ds : List PyData} {i : Int} : fIx [.list ds, .int i] = (atI ds i).map fun d => (.f, d) := id rfl
@[simp] theorem o_ixT {ds : List PyData} {i : Int} : fIx [.tuple ds, .int i] = (atI ds i).map fun d => (.f, d) := id rfl
theorem o_ixS {l : List Nat} {i : Int} (h : l.length ≤ 16777216) : fIx [str l, .int i] = (atI l i).map fun c => (.f, str [c]) := by
  show (if Str.length ⟨l.toArray⟩ ≤ sizeLine then (atI l.toArray.toList i).map fun c => (Ow.f, chD c) else none) = _
  rw [slen, if_pos (by simpa [sizeLine] using h)]
  rfl
theorem o_rev {l : List Nat} (h : l.length ≤ 16777216) : fRev [str l] = some (.f, str l.reverse) := by
  show (if Str.length ⟨l.toArray⟩ ≤ sizeLine then some (Ow.f, PyData.str ⟨l.toArray.toList.reverse.toArray⟩) else none) = _
  rw [slen, if_pos (by simpa [sizeLine] using h)]
theorem o_repl {l : List Nat} {c : Nat} (h : l.length ≤ 16777216) (hl : ∀ x ∈ l, x < 0x110000) : fReplC ⟨#[c]⟩ ⟨#[]⟩ [str l] = some (.f, str (l.filter (· != c))) := by
  have e : Txt.replace ⟨l.toArray⟩ ⟨#[c]⟩ ⟨#[]⟩ = ⟨(l.filter (· != c)).toArray⟩ := by
    have := replace_strikes ⟨l.toArray⟩ c
    cases q : Txt.replace ⟨l.toArray⟩ ⟨#[c]⟩ ⟨#[]⟩ with
    | mk a =>
      rw [q] at this
      congr 1
      apply Array.ext'
      simpa using this
  show (if Str.length ⟨l.toArray⟩ + (Str.length ⟨l.toArray⟩ + 1) * Str.length ⟨#[]⟩ ≤ 16777216 ∧ PyData.strOk (Txt.replace ⟨l.toArray⟩ ⟨#[c]⟩ ⟨#[]⟩) = true then some (Ow.f, PyData.str (Txt.replace ⟨l.toArray⟩ ⟨#[c]⟩ ⟨#[]⟩)) else none) = _
  rw [e, if_pos]
  refine ⟨?_, ?_⟩
  · rw [slen]
    simp [Str.length]
    exact h
  · unfold PyData.strOk
    simp
    intro x hx
    exact .inr (hl x hx)
theorem o_join {ls : List Nat} (h : ls.length ≤ 16777216) (hl : ∀ x ∈ ls, x < 0x110000) : fJoin [str [], .list (ls.map fun c => str [c])] = some (.f, str ls) := by
  have e1 : ∀ ls : List Nat, strsD (ls.map fun c => str [c]) = some (ls.map fun c => ⟨#[c]⟩) := by
    intro ls
    induction ls with
    | nil => rfl
    | cons a ls ih =>
      show (strsD (ls.map fun c => str [c])).map _ = _
      rw [ih]
      rfl
  have e2 : Txt.join ⟨#[]⟩ (ls.map fun c => (⟨#[c]⟩ : Str)) = ⟨ls.toArray⟩ := by
    have e3 : ∀ (ls : List Nat) (a : Array Nat), (ls.map fun c => (⟨#[c]⟩ : Str)).foldl (fun acc p => acc ++ (⟨#[]⟩ : Str).cps ++ p.cps) a = a ++ ls.toArray := by
      intro ls
      induction ls with
      | nil => intro a; simp
      | cons c ls ih =>
        intro a
        rw [List.map_cons, List.foldl_cons, ih]
        apply Array.ext'
        simp
    cases ls with
    | nil => rfl
    | cons c ls =>
      show (⟨(ls.map fun c => (⟨#[c]⟩ : Str)).foldl (fun acc p => acc ++ (⟨#[]⟩ : Str).cps ++ p.cps) #[c]⟩ : Str) = _
      rw [e3]
      congr 1
      apply Array.ext'
      simp
  show gJoin ⟨#[]⟩ (ls.map fun c => str [c]) = _
  unfold gJoin
  rw [e1]
  simp only
  rw [if_pos]
  · rw [e2]
  · unfold joinB
    rw [e2, Bool.and_eq_true]
    refine ⟨?_, ?_⟩
    · rw [decide_eq_true_eq, List.map_map]
      have : ((ls.map ((fun x : Str => x.length) ∘ fun c => (⟨#[c]⟩ : Str))).sum) = ls.length := by
        clear e2 h hl
        induction ls with
        | nil => rfl
        | cons a ls ih => rw [List.map_cons, List.sum_cons, ih]; simp [Str.length]; omega
      rw [this]
      simp [Str.length]
      exact h
    · unfold PyData.strOk
      simpa using hl
@[simp] theorem o_app {ds : List PyData} {d : PyData} (h : ds.length < 16777216) : muApp (.list ds) [d] = some (.list (ds ++ [d]), .none) := by
  show (if ds.length < sizeLine then some (PyData.list (ds ++ [d]), PyData.none) else none) = _
  rw [if_pos (by simpa [sizeLine] using h)]
@[simp] theorem lt_one {a b : Nat} : ([a] : List Nat) < [b] ↔ a < b := by
  rw [List.cons_lt_cons_iff]
  simp
end Ev
end

section
set_option Elab.async false
set_option linter.all false
set_option maxRecDepth 100000
set_option maxHeartbeats 1000000
/-! More operations. -/
namespace Ev
open PySem PyProof.Rows L2
theorem o_repL {d : PyData} {n : Nat} (h : n ≤ 16777216) : fMul [.list [d], .int (n : Int)] = some (.o, .list (List.replicate n d)) := by
  have e : ∀ n : Nat, (List.replicate n [d]).flatten = List.replicate n d := by
    intro n
    induction n with
    | zero => rfl
    | succ n ih => rw [List.replicate_succ, List.flatten_cons, ih]; rfl
  rw [fMul]
  have h1 : [d].length * n ≤ 16777216 := by
    rw [List.length_singleton]
    omega
  have h2 : (decide (-(2 ^ 63) ≤ (n : Int)) && decide ((n : Int) < 2 ^ 63) && decide ([d].length * (n : Int).toNat ≤ sizeLine)) = true := by
    rw [Bool.and_eq_true, Bool.and_eq_true]
    exact ⟨⟨decide_eq_true (by omega), decide_eq_true (by omega)⟩, decide_eq_true h1⟩
  refine (if_pos h2).trans ?_
  rw [Int.toNat_natCast, e]
theorem o_repS {l : List Nat} {n : Nat} (h : l.length * n ≤ 16777216) (hn : n ≤ 16777216) : fMul [str l, .int (n : Int)] = some (.f, str (List.replicate n l).flatten) := by
  rw [fMul]
  have h2 : (decide (-(2 ^ 63) ≤ (n : Int)) && decide ((n : Int) < 2 ^ 63) && decide (Str.length ⟨l.toArray⟩ * (n : Int).toNat ≤ sizeLine)) = true := by
    rw [slen, Bool.and_eq_true, Bool.and_eq_true]
    exact ⟨⟨decide_eq_true (by omega), decide_eq_true (by omega)⟩, decide_eq_true h⟩
  exact if_pos h2
theorem o_eqI {ne : Bool} {i j : Int} : fEqM ne [.int i, .int j] = some (.f, .bool (ne != decide (i = j))) := by
  show (if min (PyData.int i).depth (PyData.int j).depth ≤ 64 then some (Ow.f, PyData.bool (ne != PyData.eqv (.int i) (.int j))) else none) = _
  rw [if_pos (by simp [PyData.depth])]
  have : PyData.eqv (.int i) (.int j) = decide (i = j) := by
    simp [PyData.eqv]
    rw [Bool.eq_iff_iff]
    simp
  rw [this]
theorem o_eqS {ne : Bool} {a b : List Nat} : fEqM ne [str a, str b] = some (.f, .bool (ne != decide (a = b))) := by
  show (if min (str a).depth (str b).depth ≤ 64 then some (Ow.f, PyData.bool (ne != PyData.eqv (str a) (str b))) else none) = _
  rw [if_pos (by simp [PyData.depth])]
  have : PyData.eqv (str a) (str b) = decide (a = b) := by
    simp [PyData.eqv]
    rw [Bool.eq_iff_iff]
    simp
  rw [this]
theorem o_mulI {i j : Int} (h : -(2 ^ 64) < j ∧ j < 2 ^ 64) : fMul [.int i, .int j] = some (.f, .int (i * j)) := by
  show (if (smallI i || smallI j) = true then some (Ow.f, PyData.int (i * j)) else none) = _
  rw [if_pos]
  rw [Bool.or_eq_true]
  right
  unfold smallI
  simpa using h
theorem o_modI {i j : Int} (h : j ≠ 0) : fMod [.int i, .int j] = some (.f, .int (i.fmod j)) := by
  show (if (j != 0) = true then some (Ow.f, PyData.int (i.fmod j)) else none) = _
  rw [if_pos (by simpa using h)]
theorem o_fdivI {i j : Int} (h : j ≠ 0) (h2 : j.natAbs < 1073741824) : fFdiv [.int i, .int j] = some (.f, .int (i.fdiv j)) := by
  show (if (j != 0 && decide (j.natAbs < 1073741824)) = true then some (Ow.f, PyData.int (i.fdiv j)) else none) = _
  rw [if_pos]
  simp [h, h2]
theorem o_shlI {i j : Int} (h : 0 ≤ j) (h1 : j ≤ 1000000) (h2 : i.natAbs < 2 ^ 64) : fShl [.int i, .int j] = some (.f, .int (i * 2 ^ j.toNat)) := by
  show (if (decide (0 ≤ j) && decide (j ≤ 1000000) && decide (i.natAbs < 2 ^ 64)) = true then some (Ow.f, PyData.int (i * 2 ^ j.toNat)) else none) = _
  rw [if_pos]
  rw [Bool.and_eq_true, Bool.and_eq_true]
  exact ⟨⟨decide_eq_true h, decide_eq_true h1⟩, decide_eq_true h2⟩
@[simp] theorem o_min2 {i j : Int} : fMin2 [.int i, .int j] = some (.f, .int (if j < i then j else i)) := id rfl
@[simp] theorem o_listRev {ds : List PyData} : fListRev [.list ds] = some (.o, .list ds.reverse) := id rfl
theorem o_seL {ds : List PyData} {k : Nat} {v : PyData} (h : k < ds.length) : seL (.list ds) (.int (k : Int)) v = some (.list (ds.set k v)) := by
  show (ixN ds.length (k : Int)).map (fun j => PyData.list (ds.set j v)) = _
  unfold ixN
  rw [if_pos (by omega), if_pos (by omega)]
  simp
theorem o_ext {ds es : List PyData} (h : ds.length + es.length ≤ 16777216) : muExt (.list ds) [.list es] = some (.list (ds ++ es), .none) := by
  show (if ds.length + es.length ≤ sizeLine then some (PyData.list (ds ++ es), PyData.none) else none) = _
  rw [if_pos (by simpa [sizeLine] using h)]
@[simp] theorem i_EL {ds : List PyData} : itE [.list ds] = some (enumD 0 ds) := id rfl
@[simp] theorem i_ET {ds : List PyData} : itE [.tuple ds] = some (enumD 0 ds) := id rfl
@[simp] theorem i_ES {l : List Nat} : itE [str l] = some (enumD 0 (l.map fun c => str [c])) := id rfl
theorem enum_map {α : Type} (l : List α) (f : α → PyData) : enumD 0 (l.map f) = l.zipIdx.map fun p => .tuple [.int (p.2 : Int), f p.1] := by
  rw [enum0, List.zipIdx_map, List.map_map]
  rfl
theorem ix_int (k : Nat) : ∀ (l : List Nat), k ∈ l → ∃ j, j < l.length ∧ l[j]? = some k ∧ ixOf (.int (k : Int)) (l.map fun (i : Nat) => PyData.int (i : Int)) = some j
  | [], h => by cases h
  | a :: l, h => by
    rw [List.map_cons]
    unfold ixOf
    have e : PyData.eqv (.int (a : Int)) (.int (k : Int)) = decide (a = k) := by
      simp [PyData.eqv]
      rw [Bool.eq_iff_iff]
      simp
      omega
    rw [e]
    by_cases hk : a = k
    · subst hk
      exact ⟨0, by simp, by simp, by simp⟩
    · obtain ⟨j, h1, h2, h3⟩ := ix_int k l (by rcases List.mem_cons.mp h with h | h; exact absurd h.symm hk; exact h)
      exact ⟨j + 1, by simpa using h1, by simpa using h2, by simp [hk, h3]⟩
theorem flat_ints (l : List Nat) : (l.map fun (i : Nat) => PyData.int (i : Int)).all flatD = true := by
  rw [List.all_eq_true]
  intro d hd
  obtain ⟨i, _, rfl⟩ := List.mem_map.mp hd
  rfl
theorem o_indexT {l : List Nat} {k j : Nat} (h : ixOf (.int (k : Int)) (l.map fun (i : Nat) => PyData.int (i : Int)) = some j) : fIndexT [.tuple (l.map fun (i : Nat) => PyData.int (i : Int)), .int (k : Int)] = some (.f, .int (j : Nat)) := by
  show gIndex _ _ = _
  unfold gIndex
  rw [if_pos ⟨rfl, flat_ints l⟩, h]
  rfl
theorem o_indexL {l : List Nat} {k j : Nat} (h : ixOf (.int (k : Int)) (l.map fun (i : Nat) => PyData.int (i : Int)) = some j) : fIndexL [.list (l.map fun (i : Nat) => PyData.int (i : Int)), .int (k : Int)] = some (.f, .int (j : Nat)) := by
  show gIndex _ _ = _
  unfold gIndex
  rw [if_pos ⟨rfl, flat_ints l⟩, h]
  rfl
end Ev
namespace Ev
open PySem
/-- a call that returns, by its body -/
theorem clN_ret {tab : Nat → Option Fn} {n f : Nat} {np ns : Nat} {io : List Nat} {b : CS} {xs : List Vl} {v : Vl} {fs : List Vl} {e : En} (h : tab f = some ⟨np, ns, io, noEx b⟩) (hl : xs.length = np) (hb : b (clN tab n) (xs.map some ++ List.replicate (ns - np) none) = .ok (e, .rt v)) (hf : finals e io = some fs) : clN tab (n + 1) f xs = .ok (v, fs) := by
  rw [clN_run h, if_pos hl, hb]
  simp only [hf]
end Ev
namespace Ev
open PySem
def finR (v : Vl) : Option (List Vl) → R (Vl × List Vl)
  | some fs => .ok (v, fs)
  | none => .no
def retOf (io : List Nat) : R (En × Fl) → R (Vl × List Vl)
  | .ok (e, .rt v) => finR v (finals e io)
  | .ok (e, .nx) => finR (.f, .none) (finals e io)
  | _ => .no
@[simp] theorem s_finR {v : Vl} {fs : List Vl} : finR v (some fs) = .ok (v, fs) := id rfl
@[simp] theorem s_retR {io : List Nat} {e : En} {v : Vl} : retOf io (.ok (e, .rt v)) = finR v (finals e io) := id rfl
theorem clN_go {tab : Nat → Option Fn} {n f : Nat} {np ns : Nat} {io : List Nat} {b : CS} {xs : List Vl} (h : tab f = some ⟨np, ns, io, noEx b⟩) (hl : xs.length = np) : clN tab (n + 1) f xs = retOf io (b (clN tab n) (xs.map some ++ List.replicate (ns - np) none)) := by
  rw [clN_run h, if_pos hl]
  rcases b (clN tab n) (xs.map some ++ List.replicate (ns - np) none) with ⟨e, fl⟩ | _ | _
  · cases fl <;> first | rfl | (simp only [retOf]; cases finals e io <;> rfl)
  · rfl
  · rfl
end Ev
namespace Ev
open PySem
/-- a loop over a frozen name, all turns -/
theorem for_n {cl : Cl} {e e2 : En} {i : Nat} {d : PyData} {f : List PyData → Option (List PyData)} {tg : Tg} {body : CS} {xs : List PyData} {fl : Fl} (h : gt e i = some (.f, d)) (hx : f [d] = some xs) (hf : forL tg body cl xs e = .ok (e2, fl)) : cFor ⟨[.n i], f⟩ tg body cl e = .ok (e2, fl) := by
  unfold cFor
  rw [it_n h (by simp) hx]
  simp only [s_bind, s_lkn, h, s_lk0, hf, s_uln, s_ul0]
/-- a loop over an owned name, all turns -/
theorem for_o {cl : Cl} {e e2 : En} {i : Nat} {d : PyData} {f : List PyData → Option (List PyData)} {tg : Tg} {body : CS} {xs : List PyData} {fl : Fl} (h : gt e i = some (.o, d)) (hx : f [d] = some xs) (hf : forL tg body cl xs (st e i (some (.l, d))) = .ok (e2, fl)) (h2 : gt e2 i = some (.l, d)) : cFor ⟨[.n i], f⟩ tg body cl e = .ok (st e2 i (some (.o, d)), fl) := by
  unfold cFor
  rw [it_n h (by simp) hx]
  simp only [s_bind, s_lkn, h, s_lk0, hf, s_uln, s_ul0, Option.bind, s_ul1, h2]
end Ev
end

section
set_option Elab.async false
set_option linter.all false
set_option maxRecDepth 100000
set_option maxHeartbeats 1000000
/-! What repr shows of small data. -/
namespace Ev
open PySem PyProof.Rows
def okS (x : Str) : Prop := ∀ c ∈ x.cps.toList, c < 1114112
theorem okS.app {a b : Str} (h : okS a) (h' : okS b) : okS (a ++ b) := fun c hc => (mem_cps_append.mp hc).elim (h c) (h' c)
theorem okS_from : ∀ (ts : List Str) (k : Nat) (acc : Str), okS acc → (∀ t ∈ ts, okS t) → okS (textFrom k acc ts)
  | [], _, _, h, _ => h
  | t :: ts, k, acc, h, ht => by
    rw [textFrom]
    refine okS_from ts _ _ ((h.app ?_).app (ht t (List.mem_cons_self ..))) fun u hu => ht u (List.mem_cons_of_mem _ hu)
    split
    · have : okS ", " := by unfold okS; decide
      exact this
    · have : okS "" := by unfold okS; decide
      exact this
theorem okS_list {ts : List Str} (h : ∀ t ∈ ts, okS t) : okS (listText ts) := by
  unfold listText
  have h1 : okS "[" := by unfold okS; decide
  have h2 : okS "]" := by unfold okS; decide
  exact (okS_from ts 0 _ h1 h).app h2
theorem okS_tup {ts : List Str} (h : ∀ t ∈ ts, okS t) : okS (tupleText ts) := by
  unfold tupleText
  have h1 : okS "(" := by unfold okS; decide
  have h2 : okS ",)" := by unfold okS; decide
  have h3 : okS ")" := by unfold okS; decide
  refine (h1.app ?_).app ?_
  · intro c hc
    rcases (mem_join ", " c ts).mp hc with ⟨t, ht, hc⟩ | ⟨_, hc⟩
    · exact h t ht c hc
    · have h4 : okS ", " := by unfold okS; decide
      exact h4 c hc
  · split
    · exact h2
    · exact h3
theorem okS_int (i : Int) : okS (PyData.int i).shown := by
  intro c hc
  by_cases h : c = 45
  · omega
  · by_cases h2 : c < 48 ∨ 57 < c
    · exact absurd hc (shown_int_free' ⟨h, h2⟩ i)
    · omega
theorem okS_hex {m k : Nat} {c : Nat} (h : c ∈ List.replicate k 48 ++ (Nat.toDigits 16 m).map Char.toNat) : c < 1114112 := by
  rcases List.mem_append.mp h with h | h
  · rw [List.eq_of_mem_replicate h]; omega
  · obtain ⟨ch, _, rfl⟩ := List.mem_map.mp h
    have := ch.valid
    have e : ch.toNat = ch.val.toNat := rfl
    rw [e]
    rcases this with h | h
    · omega
    · omega
theorem okS_char (q c : Nat) (hq : q < 1114112) (hc : c < 1114112) : ∀ d ∈ Builtin.Str.reprChar q c, d < 1114112 := by
  intro d hd
  unfold Builtin.Str.reprChar at hd
  simp only at hd
  split at hd
  · simp at hd; omega
  split at hd
  · simp at hd; omega
  split at hd
  · simp at hd; omega
  split at hd
  · simp at hd; omega
  split at hd
  · simp at hd; omega
  split at hd
  · rcases List.mem_append.mp hd with h | h
    · simp at h; omega
    · exact okS_hex h
  split at hd
  · rcases List.mem_append.mp hd with h | h
    · simp at h; omega
    · exact okS_hex h
  · rcases List.mem_append.mp hd with h | h
    · simp at h; omega
    · exact okS_hex h
theorem okS_repr {x : Str} (h : okS x) : okS (reprText x) := by
  have hq : reprQuote x < 1114112 := by
    unfold reprQuote
    split <;> omega
  have key : ∀ (l : List Nat) (acc : Array Nat), (∀ c ∈ l, c < 1114112) → (∀ c ∈ acc.toList, c < 1114112) → ∀ c ∈ (l.foldl (fun out c => out ++ (Builtin.Str.reprChar (reprQuote x) c).toArray) acc).toList, c < 1114112 := by
    intro l
    induction l with
    | nil => intro acc _ h; exact h
    | cons a l ih =>
      intro acc hl ha
      rw [List.foldl_cons]
      refine ih _ (fun c hc => hl c (List.mem_cons_of_mem _ hc)) fun c hc => ?_
      rw [Array.toList_append, List.mem_append] at hc
      rcases hc with hc | hc
      · exact ha c hc
      · exact okS_char _ a hq (hl a (List.mem_cons_self ..)) c (by simpa using hc)
  intro c hc
  unfold reprText at hc
  rw [Array.toList_push, List.mem_append] at hc
  rcases hc with hc | hc
  · rw [← Array.foldl_toList] at hc
    exact key _ _ h (by simpa using hq) c hc
  · simp at hc
    omega
/-- small data -/
structure Sm (k W : Nat) (d : PyData) : Prop where
  lay : d.canLay0 = true
  sh : d.showable = true
  itn : d.intsShort 13 = true
  ok : okS d.shown
  dep : d.depth ≤ k
  wt : d.weight ≤ W
theorem Sm.mono {k k' W W' : Nat} {d : PyData} (h : Sm k W d) (hk : k ≤ k') (hw : W ≤ W') : Sm k' W' d := ⟨h.lay, h.sh, h.itn, h.ok, Nat.le_trans h.dep hk, Nat.le_trans h.wt hw⟩
theorem Sm.int {i : Int} (h0 : -1000000 ≤ i) (h1 : i ≤ 1000000) : Sm 0 20 (.int i) := by
  have hn : i.natAbs < 2 ^ 20 := by omega
  have hl : i.natAbs.log2 < 20 := by
    by_cases hz : i.natAbs = 0
    · rw [hz]; decide
    · exact (Nat.log2_lt hz).mpr hn
  refine ⟨by simp [PyData.canLay0], by simp only [PyData.showable]; exact decide_eq_true (by omega), ?_, okS_int i, by simp [PyData.depth], ?_⟩
  · simp only [PyData.intsShort]
    refine decide_eq_true ?_
    rw [PyData.shown_int, PySem.ofString_length]
    have := int_text_length_le10 (a := i) (k := 7) (by decide) (by omega)
    omega
  · simp only [PyData.weight]
    split <;> omega
theorem Sm.bool (b : Bool) : Sm 0 20 (.bool b) := by
  refine ⟨by simp [PyData.canLay0], by simp [PyData.showable], by simp [PyData.intsShort], ?_, by simp [PyData.depth], by simp [PyData.weight]⟩
  cases b
  · have : okS "False" := by unfold okS; decide
    exact this
  · have : okS "True" := by unfold okS; decide
    exact this
theorem Sm.str {l : List Nat} (h : ∀ c ∈ l, c < 1114112) (hl : l.length ≤ 5000) : Sm 0 5000 (str l) := by
  refine ⟨?_, by simp [PyData.showable], by simp [PyData.intsShort], ?_, by simp [PyData.depth], by simp [PyData.weight]; exact hl⟩
  · simp only [PyData.canLay0]
    unfold PyData.strOk
    simpa using h
  · rw [PyData.shown_str]
    exact okS_repr (by unfold okS; simpa using h)
theorem Sm.all {k W : Nat} : ∀ {xs : List PyData}, (∀ x ∈ xs, Sm k W x) → PyData.canLayAll0 xs = true ∧ PyData.showableAll xs = true ∧ PyData.intsShortAll 13 xs = true ∧ (∀ t ∈ PyData.shownAll xs, okS t) ∧ PyData.depthAll xs ≤ k ∧ PyData.weightAll xs ≤ xs.length * (W + 1)
  | [], _ => ⟨rfl, rfl, rfl, fun _ h => (by cases h), Nat.zero_le _, by simp [PyData.weightAll]⟩
  | x :: xs, h => by
    obtain ⟨h1, h2, h3, h4, h5, h6⟩ := Sm.all (xs := xs) fun y hy => h y (List.mem_cons_of_mem _ hy)
    have hx := h x (List.mem_cons_self ..)
    refine ⟨by simp [PyData.canLayAll0, hx.lay, h1], by simp [PyData.showableAll, hx.sh, h2], by simp [PyData.intsShortAll, hx.itn, h3], ?_, ?_, ?_⟩
    · intro t ht
      rw [PyData.shownAll] at ht
      rcases List.mem_cons.mp ht with rfl | ht
      · exact hx.ok
      · exact h4 t ht
    · rw [PyData.depthAll]
      exact Nat.max_le.mpr ⟨hx.dep, h5⟩
    · rw [PyData.weightAll, List.length_cons, Nat.succ_mul]
      have := hx.wt
      omega
theorem Sm.list {k W N : Nat} {xs : List PyData} (h : ∀ x ∈ xs, Sm k W x) (hl : xs.length ≤ N) : Sm (k + 1) (N * (W + 1)) (.list xs) := by
  obtain ⟨h1, h2, h3, h4, h5, h6⟩ := Sm.all h
  refine ⟨by simpa [PyData.canLay0] using h1, by simpa [PyData.showable] using h2, by simpa [PyData.intsShort] using h3, ?_, by simp [PyData.depth]; exact h5, ?_⟩
  · rw [PyData.shown]; exact okS_list h4
  · rw [PyData.weight]; exact Nat.le_trans h6 (Nat.mul_le_mul_right _ hl)
theorem Sm.tup {k W N : Nat} {xs : List PyData} (h : ∀ x ∈ xs, Sm k W x) (hl : xs.length ≤ N) : Sm (k + 1) (N * (W + 1)) (.tuple xs) := by
  obtain ⟨h1, h2, h3, h4, h5, h6⟩ := Sm.all h
  refine ⟨by simpa [PyData.canLay0] using h1, by simpa [PyData.showable] using h2, by simpa [PyData.intsShort] using h3, ?_, by simp [PyData.depth]; exact h5, ?_⟩
  · rw [PyData.shown]; exact okS_tup h4
  · rw [PyData.weight]; exact Nat.le_trans h6 (Nat.mul_le_mul_right _ hl)
theorem Sm.eq {d : PyData} (h : Sm 60 1000000 d) : fEqM false [d, d] = some (.f, .bool true) := by
  show (if min d.depth d.depth ≤ 64 then some (Ow.f, PyData.bool (false != PyData.eqv d d)) else none) = _
  rw [if_pos (by have := h.dep; omega), PySem.SeqAt.eqv_refl d h.lay]
  rfl
theorem Sm.repr {d : PyData} (h : Sm 60 1000000 d) : ∃ s, fRepr [d] = some (.f, .str s) ∧ fEqM false [.str s, .str s] = some (.f, .bool true) := by
  refine ⟨d.shown, ?_, ?_⟩
  · show gRepr d = _
    unfold gRepr
    rw [if_pos]
    refine ⟨h.sh, PyData.hasDict_of_canLay d h.lay, ?_, by have := h.dep; omega, ?_⟩
    · refine PyData.shown_fits (B := 13) (by decide) (by decide) (PyData.leavesShort_of_canLay0 13 d h.lay h.itn) ?_
      have := h.wt
      omega
    · unfold PyData.strOk
      have := h.ok
      unfold okS at this
      rw [← Array.all_toList, List.all_eq_true]
      intro c hc
      exact decide_eq_true (this c hc)
  · show (if min (PyData.str d.shown).depth (PyData.str d.shown).depth ≤ 64 then some (Ow.f, PyData.bool (false != PyData.eqv (.str d.shown) (.str d.shown))) else none) = _
    rw [if_pos (by simp [PyData.depth])]
    simp [PyData.eqv]
end Ev
namespace Ev
open PySem PyProof.Rows
mutual
/-- small data, by looking -/
def gd : PyData → Bool
  | .none => false
  | .bool _ => true
  | .int i => decide (-1000000 ≤ i) && decide (i ≤ 1000000)
  | .str x => x.cps.toList.all (fun c => decide (c < 1114112)) && decide (x.cps.toList.length ≤ 5000)
  | .list xs => gdAll xs
  | .tuple xs => gdAll xs
  | .dict _ => false
def gdAll : List PyData → Bool
  | [] => true
  | x :: xs => gd x && gdAll xs
end
mutual
theorem gd_sm : ∀ d : PyData, gd d = true → Sm d.depth d.weight d
  | .none, h => by simp [gd] at h
  | .bool b, _ => by
    have := Sm.bool b
    exact ⟨this.lay, this.sh, this.itn, this.ok, Nat.le_refl _, Nat.le_refl _⟩
  | .int i, h => by
    simp [gd] at h
    have := Sm.int h.1 h.2
    exact ⟨this.lay, this.sh, this.itn, this.ok, Nat.le_refl _, Nat.le_refl _⟩
  | .str x, h => by
    simp only [gd, Bool.and_eq_true, List.all_eq_true, decide_eq_true_eq] at h
    have := Sm.str (l := x.cps.toList) h.1 h.2
    have e : (⟨x.cps.toList.toArray⟩ : Str) = x := by simp
    have e2 : str x.cps.toList = .str x := by rw [show str x.cps.toList = .str ⟨x.cps.toList.toArray⟩ from rfl, e]
    rw [e2] at this
    exact ⟨this.lay, this.sh, this.itn, this.ok, Nat.le_refl _, Nat.le_refl _⟩
  | .list xs, h => by
    have := gdAll_sm xs (by simpa [gd] using h)
    have := Sm.list this (Nat.le_refl _)
    exact ⟨this.lay, this.sh, this.itn, this.ok, Nat.le_refl _, Nat.le_refl _⟩
  | .tuple xs, h => by
    have := gdAll_sm xs (by simpa [gd] using h)
    have := Sm.tup this (Nat.le_refl _)
    exact ⟨this.lay, this.sh, this.itn, this.ok, Nat.le_refl _, Nat.le_refl _⟩
  | .dict _, h => by simp [gd] at h
theorem gdAll_sm : ∀ xs : List PyData, gdAll xs = true → ∀ x ∈ xs, Sm (PyData.depthAll xs) (PyData.weightAll xs) x
  | [], _, _, hx => by cases hx
  | y :: ys, h, x, hx => by
    simp only [gdAll, Bool.and_eq_true] at h
    rcases List.mem_cons.mp hx with e | hx
    · have hy := gd_sm y h.1
      rw [e]
      exact hy.mono (by rw [PyData.depthAll]; exact Nat.le_max_left _ _) (by rw [PyData.weightAll]; omega)
    · exact (gdAll_sm ys h.2 x hx).mono (by rw [PyData.depthAll]; exact Nat.le_max_right _ _) (by rw [PyData.weightAll]; omega)
end
theorem Sm.of {d : PyData} (h : gd d = true) (hd : d.depth ≤ 60) (hw : d.weight ≤ 1000000) : Sm 60 1000000 d := (gd_sm d h).mono hd hw
end Ev
end

section
set_option Elab.async false
set_option linter.all false
set_option maxRecDepth 100000
set_option maxHeartbeats 1000000
/-! Rules of the operations in EvX. -/
namespace Ev
open PySem PyProof.Rows L2
@[simp] theorem s_cor {cl : Cl} {e : En} {a b : CE} : cOr a b cl e = (a cl e).bind fun p => match truth p.2.2 with
  | some false => b cl p.1
  | some true => .ok (p.1, .f, p.2.2)
  | none => .no := id rfl
@[simp] theorem o_isN {d : PyData} : fIsN [d, .none] = some (.f, .bool (noneD d)) := id rfl
@[simp] theorem o_notN {d : PyData} : fNotN [d, .none] = some (.f, .bool (!noneD d)) := id rfl
@[simp] theorem noneD_n : noneD .none = true := rfl
@[simp] theorem noneD_b {b : Bool} : noneD (.bool b) = false := rfl
@[simp] theorem noneD_i {i : Int} : noneD (.int i) = false := rfl
@[simp] theorem noneD_s {x : Str} : noneD (.str x) = false := rfl
@[simp] theorem noneD_t {ds : List PyData} : noneD (.tuple ds) = false := rfl
@[simp] theorem noneD_l {ds : List PyData} : noneD (.list ds) = false := rfl
theorem o_isi {T : String} {d : PyData} {b : Bool} (h : kitB (tyD d) T = some b) : fIsi T [d] = some (.f, .bool b) := by
  show (kitB (tyD d) T).map (fun b => (Ow.f, PyData.bool b)) = _
  rw [h]
  rfl
theorem k_nb : kitB "NoneType" "bool" = some false := by decide +kernel
theorem k_bb : kitB "bool" "bool" = some true := by decide +kernel
theorem k_bi : kitB "bool" "int" = some true := by decide +kernel
theorem k_ib : kitB "int" "bool" = some false := by decide +kernel
theorem k_ii : kitB "int" "int" = some true := by decide +kernel
theorem k_sb : kitB "str" "bool" = some false := by decide +kernel
theorem k_si : kitB "str" "int" = some false := by decide +kernel
theorem k_ss : kitB "str" "str" = some true := by decide +kernel
theorem k_st : kitB "str" "tuple" = some false := by decide +kernel
theorem k_tb : kitB "tuple" "bool" = some false := by decide +kernel
theorem k_ti : kitB "tuple" "int" = some false := by decide +kernel
theorem k_ts : kitB "tuple" "str" = some false := by decide +kernel
theorem k_tt : kitB "tuple" "tuple" = some true := by decide +kernel
@[simp] theorem i_bb {b : Bool} : fIsi "bool" [.bool b] = some (.f, .bool true) := o_isi k_bb
@[simp] theorem i_bi {b : Bool} : fIsi "int" [.bool b] = some (.f, .bool true) := o_isi k_bi
@[simp] theorem i_ib {i : Int} : fIsi "bool" [.int i] = some (.f, .bool false) := o_isi k_ib
@[simp] theorem i_ii {i : Int} : fIsi "int" [.int i] = some (.f, .bool true) := o_isi k_ii
@[simp] theorem i_sb {x : Str} : fIsi "bool" [.str x] = some (.f, .bool false) := o_isi k_sb
@[simp] theorem i_si {x : Str} : fIsi "int" [.str x] = some (.f, .bool false) := o_isi k_si
@[simp] theorem i_ss {x : Str} : fIsi "str" [.str x] = some (.f, .bool true) := o_isi k_ss
@[simp] theorem i_tb {ds : List PyData} : fIsi "bool" [.tuple ds] = some (.f, .bool false) := o_isi k_tb
@[simp] theorem i_ti {ds : List PyData} : fIsi "int" [.tuple ds] = some (.f, .bool false) := o_isi k_ti
@[simp] theorem i_ts {ds : List PyData} : fIsi "str" [.tuple ds] = some (.f, .bool false) := o_isi k_ts
@[simp] theorem i_tt {ds : List PyData} : fIsi "tuple" [.tuple ds] = some (.f, .bool true) := o_isi k_tt
theorem bools_true : ∀ {α : Type} (l : List α), boolsD (l.map fun _ => PyData.bool true) = some (l.map fun _ => true)
  | _, [] => rfl
  | _, a :: l => by
    show (boolsD (l.map fun _ => PyData.bool true)).map (true :: ·) = _
    rw [bools_true l]
    rfl
theorem o_all {α : Type} (l : List α) : fAll [.list (l.map fun _ => PyData.bool true)] = some (.f, .bool true) := by
  show (boolsD (l.map fun _ => PyData.bool true)).map (fun bs => (Ow.f, PyData.bool (bs.all id))) = _
  rw [bools_true]
  simp
theorem o_listS {l : List Nat} (h : l.length ≤ 16777216) : fListS [str l] = some (.o, .list (l.map fun c => str [c])) := by
  show (if l.toArray.toList.length ≤ sizeLine then some (Ow.o, PyData.list (l.toArray.toList.map chD)) else none) = _
  rw [if_pos (by simpa [sizeLine] using h)]
  rfl
@[simp] theorem o_listL {ds : List PyData} : fListS [.list ds] = some (.o, .list ds) := id rfl
@[simp] theorem o_listT {ds : List PyData} : fListS [.tuple ds] = some (.o, .list ds) := id rfl
@[simp] theorem i_rv {ds : List PyData} : itRvL [.list ds] = some ds.reverse := id rfl
theorem i_zip (ds : List PyData) : itZ [.tuple ds, .tuple ds] = some (ds.map fun d => .tuple [d, d]) := by
  show some (zipD ds ds) = _
  unfold zipD
  congr 1
  induction ds with
  | nil => rfl
  | cons d ds ih => rw [List.zipWith_cons_cons, List.map_cons, ih]
@[simp] theorem o_leI {i j : Int} : fLe [.int i, .int j] = some (.f, .bool (decide (i ≤ j))) := id rfl
/-- int in a tuple of ints -/
theorem eqv_int {i j : Int} : PyData.eqv (.int i) (.int j) = decide (i = j) := by
  simp [PyData.eqv]
  rw [Bool.eq_iff_iff]
  simp
theorem inD_ints (k : Nat) (l : List Nat) : inD (.int (k : Int)) (l.map fun (i : Nat) => PyData.int (i : Int)) = decide (k ∈ l) := by
  unfold inD
  rw [Bool.eq_iff_iff, List.any_eq_true, decide_eq_true_eq]
  constructor
  · rintro ⟨d, hd, h⟩
    obtain ⟨i, hi, rfl⟩ := List.mem_map.mp hd
    rw [eqv_int, decide_eq_true_eq] at h
    have : i = k := by omega
    exact this ▸ hi
  · intro h
    refine ⟨_, List.mem_map.mpr ⟨k, h, rfl⟩, ?_⟩
    rw [eqv_int]
    simp
theorem o_inT {ne : Bool} {k : Nat} {l : List Nat} : fIn ne [.int (k : Int), .tuple (l.map fun (i : Nat) => PyData.int (i : Int))] = some (.f, .bool (if ne then !decide (k ∈ l) else decide (k ∈ l))) := by
  show gIn ne (.int (k : Int)) (l.map fun (i : Nat) => PyData.int (i : Int)) = _
  unfold gIn
  rw [if_pos ⟨rfl, flat_ints l⟩, inD_ints]
/-- plain data, so deep -/
def plB : Nat → PyData → Bool
  | _, .none => true
  | _, .bool _ => true
  | _, .int _ => true
  | _, .str _ => true
  | _, .list _ => false
  | _, .dict _ => false
  | 0, .tuple _ => false
  | m + 1, .tuple ds => decide (ds.length ≤ 100000) && ds.all (plB m)
end Ev
end

section
set_option Elab.async false
set_option linter.all false
set_option maxRecDepth 100000
set_option maxHeartbeats 1000000
/-! Sorted tails of a text, in plain Lean. -/
namespace B
/-- insertion into a sorted list -/
def ins {α : Type} (le : α → α → Bool) (a : α) : List α → List α
  | [] => [a]
  | b :: r => if le a b = true then a :: b :: r else b :: ins le a r
def srt {α : Type} (le : α → α → Bool) : List α → List α
  | [] => []
  | a :: l => ins le a (srt le l)
theorem ins_perm {α : Type} (le : α → α → Bool) (a : α) : ∀ l : List α, (ins le a l).Perm (a :: l)
  | [] => .refl _
  | b :: r => by
    unfold ins
    by_cases h : le a b = true
    · rw [if_pos h]
    · rw [if_neg h]
      exact ((ins_perm le a r).cons b).trans (.swap a b r)
theorem srt_perm {α : Type} (le : α → α → Bool) : ∀ l : List α, (srt le l).Perm l
  | [] => .refl _
  | a :: l => (ins_perm le a _).trans ((srt_perm le l).cons a)
theorem ins_sorted {α : Type} {le : α → α → Bool} (tot : ∀ a b, le a b = false → le b a = true) (tr : ∀ a b c, le a b = true → le b c = true → le a c = true) (a : α) : ∀ l : List α, l.Pairwise (fun x y => le x y = true) → (ins le a l).Pairwise (fun x y => le x y = true)
  | [], _ => by simp [ins]
  | b :: r, h => by
    have h' := List.pairwise_cons.mp h
    unfold ins
    by_cases hab : le a b = true
    · rw [if_pos hab]
      refine List.pairwise_cons.mpr ⟨fun x hx => ?_, h⟩
      rcases List.mem_cons.mp hx with rfl | hx
      · exact hab
      · exact tr a b x hab (h'.1 x hx)
    · rw [if_neg hab]
      refine List.pairwise_cons.mpr ⟨fun x hx => ?_, ins_sorted tot tr a r h'.2⟩
      rcases List.mem_cons.mp ((ins_perm le a r).mem_iff.mp hx) with rfl | hx
      · exact tot _ _ (by simpa using hab)
      · exact h'.1 x hx
theorem srt_sorted {α : Type} {le : α → α → Bool} (tot : ∀ a b, le a b = false → le b a = true) (tr : ∀ a b c, le a b = true → le b c = true → le a c = true) : ∀ l : List α, (srt le l).Pairwise (fun x y => le x y = true)
  | [] => .nil
  | a :: l => ins_sorted tot tr a _ (srt_sorted tot tr l)
theorem srt_map {α β : Type} {le : α → α → Bool} {le' : β → β → Bool} (f : α → β) (h : ∀ a b, le' (f a) (f b) = le a b) : ∀ l : List α, srt le' (l.map f) = (srt le l).map f
  | [] => rfl
  | a :: l => by
    have key : ∀ l : List α, ins le' (f a) (l.map f) = (ins le a l).map f := by
      intro l
      induction l with
      | nil => rfl
      | cons b r ih =>
        rw [List.map_cons, ins, ins, h]
        by_cases hab : le a b = true
        · rw [if_pos hab, if_pos hab]; rfl
        · rw [if_neg hab, if_neg hab, ih]; rfl
    rw [List.map_cons, srt, srt, srt_map f h l, key]
/-- a sorted list without two that are alike is the one sorted list of its members -/
theorem sorted_unique {α : Type} {le : α → α → Bool} (anti : ∀ a b, le a b = true → le b a = true → a = b) : ∀ {l l' : List α}, l.Perm l' → l.Pairwise (fun x y => le x y = true) → l'.Pairwise (fun x y => le x y = true) → l = l' :=
  fun p h h' => p.eq_of_pairwise (fun a b _ _ h1 h2 => anti a b h1 h2) h h'
/-- what of a sorted list is below stands ahead -/
theorem filter_take {α : Type} {R : α → α → Prop} (p : α → Bool) : ∀ {l : List α}, l.Pairwise R → (∀ a b, R a b → p b = true → p a = true) → l.filter p = l.take (l.countP p)
  | [], _, _ => rfl
  | a :: l, h, hd => by
    have h' := List.pairwise_cons.mp h
    by_cases ha : p a = true
    · rw [List.filter_cons_of_pos ha, List.countP_cons_of_pos ha, List.take_succ_cons, filter_take p h'.2 hd]
    · have hn : ∀ b ∈ l, ¬ p b = true := fun b hb hp => ha (hd a b (h'.1 b hb) hp)
      rw [List.filter_cons_of_neg ha, List.countP_cons_of_neg ha, List.countP_eq_zero.mpr hn, List.take_zero, List.filter_eq_nil_iff.mpr hn]
/-- counting by rank: the signs at the tails below -/
theorem count_take {α : Type} {R : α → α → Prop} (p : α → Bool) (f : α → Nat) (c : Nat) : ∀ {l : List α}, l.Pairwise R → (∀ a b, R a b → p b = true → p a = true) → l.countP (fun a => f a == c && p a) = ((l.map f).take (l.countP p)).count c
  | [], _, _ => rfl
  | a :: l, h, hd => by
    have h' := List.pairwise_cons.mp h
    by_cases ha : p a = true
    · rw [List.countP_cons_of_pos (p := p) ha, List.map_cons, List.take_succ_cons, List.count_cons, List.countP_cons, count_take p f c h'.2 hd]
      simp [ha]
    · have hn : ∀ b ∈ l, ¬ p b = true := fun b hb hp => ha (hd a b (h'.1 b hb) hp)
      rw [List.countP_cons_of_neg (p := p) ha, List.countP_eq_zero.mpr hn, List.take_zero]
      rw [List.countP_eq_zero.mpr]
      · rfl
      · intro b hb
        rcases List.mem_cons.mp hb with rfl | hb
        · simp [ha]
        · simp [hn b hb]
/-! ### tails -/
/-- all tails of a text but the empty one -/
def tails : List Nat → List (List Nat)
  | [] => []
  | a :: l => (a :: l) :: tails l
theorem tails_map : ∀ l : List Nat, tails l = (List.range l.length).map fun i => l.drop i
  | [] => rfl
  | a :: l => by
    rw [tails, List.length_cons, List.range_succ_eq_map, List.map_cons, List.map_map, tails_map l]
    rfl
def leL (a b : List Nat) : Bool := decide (a ≤ b)
theorem leL_tot (a b : List Nat) (h : leL a b = false) : leL b a = true := by
  unfold leL at *
  simp at *
  exact List.le_of_lt h
theorem leL_tr (a b c : List Nat) (h : leL a b = true) (h' : leL b c = true) : leL a c = true := by
  unfold leL at *
  simp at *
  exact List.le_trans h h'
theorem leL_anti (a b : List Nat) (h : leL a b = true) (h' : leL b a = true) : a = b := by
  unfold leL at *
  simp at *
  exact List.le_antisymm h h'
/-- the sorted tails -/
def T (s : List Nat) : List (List Nat) := srt leL (tails s)
/-- the sign before a tail, the last for the whole -/
def bf (s t : List Nat) : Nat := if t.length = s.length then 46 else s.getD (s.length - t.length - 1) 0
theorem T_perm (s : List Nat) : (T s).Perm (tails s) := srt_perm _ _
theorem T_sorted (s : List Nat) : (T s).Pairwise (fun x y => leL x y = true) := srt_sorted leL_tot leL_tr _
theorem tails_bf (w : List Nat) : (tails (w ++ [46])).map (fun t => bf (w ++ [46]) t :: t) = (46 :: (w ++ [46])) :: (List.range w.length).map fun i => (w ++ [46]).drop i := by
  rw [tails_map, List.length_append, List.length_singleton, List.range_succ_eq_map, List.map_map, List.map_cons, List.map_map]
  congr 1
  · simp [bf]
  · refine List.map_congr_left fun i hi => ?_
    have hi : i < w.length := List.mem_range.mp hi
    have hn : (w ++ [46]).length = w.length + 1 := by simp
    have e : ((w ++ [46]).drop (i + 1)).length = w.length - i := by rw [List.length_drop, hn]; omega
    show bf (w ++ [46]) ((w ++ [46]).drop (i + 1)) :: (w ++ [46]).drop (i + 1) = (w ++ [46]).drop i
    unfold bf
    rw [e, hn, if_neg (by omega), show w.length + 1 - (w.length - i) - 1 = i by omega]
    rw [List.drop_eq_getElem_cons (i := i) (by rw [hn]; omega)]
    rw [List.getD_eq_getElem?_getD, List.getElem?_eq_getElem (by rw [hn]; omega)]
    rfl
theorem tails_dot (w : List Nat) : tails (w ++ [46]) = ((List.range w.length).map fun i => (w ++ [46]).drop i) ++ [[46]] := by
  rw [tails_map, List.length_append, List.length_singleton, List.range_succ, List.map_append]
  simp
/-- the last letters, by the sorted tails -/
def La (s : List Nat) : List Nat := (T s).map (bf s)
/-- one sign more ahead -/
def pre (c : Nat) (P : List Nat → Bool) : List Nat → Bool
  | [] => true
  | l :: y => decide (l < c) || (l == c && P y)
/-- the backward step, by counting -/
theorem back_step (w : List Nat) (c : Nat) (hc : 46 < c) (P : List Nat → Bool) (hP : ∀ a b, leL a b = true → P b = true → P a = true) :
    (T (w ++ [46])).countP (pre c P) = (La (w ++ [46])).countP (fun l => decide (l < c)) + ((La (w ++ [46])).take ((T (w ++ [46])).countP P)).count c := by
  have h1 : (T (w ++ [46])).countP (pre c P) = (T (w ++ [46])).countP (fun t => pre c P (bf (w ++ [46]) t :: t)) := by
    rw [(T_perm _).countP_eq, (T_perm _).countP_eq]
    have := congrArg (List.countP (pre c P)) (tails_bf w)
    rw [List.countP_map] at this
    rw [show (fun t => pre c P (bf (w ++ [46]) t :: t)) = (pre c P) ∘ (fun t => bf (w ++ [46]) t :: t) from rfl, this, tails_dot, List.countP_append, List.countP_cons]
    simp [pre, hc]
  rw [h1, La, List.countP_map]
  rw [← count_take (R := fun x y => leL x y = true) P (bf (w ++ [46])) c (T_sorted _) hP]
  generalize T (w ++ [46]) = l
  induction l with
  | nil => rfl
  | cons t l ih =>
    rw [List.countP_cons, List.countP_cons, List.countP_cons, ih]
    simp only [pre, Function.comp]
    by_cases h : bf (w ++ [46]) t < c
    · have h' : ¬ bf (w ++ [46]) t = c := by omega
      simp [h, h']
      omega
    · simp [h]
      omega
/-! ### ranges -/
def lt (x t : List Nat) : Bool := decide (t < x)
def lx (x t : List Nat) : Bool := decide (t < x) || x.isPrefixOf t
theorem pre_lt (c : Nat) (x : List Nat) : pre c (lt x) = lt (c :: x) := by
  funext t
  cases t with
  | nil => simp [pre, lt]
  | cons l y =>
    unfold pre lt
    rw [Bool.eq_iff_iff]
    simp [List.cons_lt_cons_iff]
theorem pre_lx (c : Nat) (x : List Nat) : pre c (lx x) = lx (c :: x) := by
  funext t
  cases t with
  | nil => simp [pre, lx]
  | cons l y =>
    unfold pre lx
    rw [Bool.eq_iff_iff]
    simp [List.cons_lt_cons_iff, List.isPrefixOf]
    constructor
    · rintro (h | ⟨h, h1 | h1⟩)
      · exact .inl (.inl h)
      · exact .inl (.inr ⟨h, h1⟩)
      · exact .inr ⟨h.symm, h1⟩
    · rintro ((h | ⟨h, h1⟩) | ⟨h, h1⟩)
      · exact .inl h
      · exact .inr ⟨h, .inl h1⟩
      · exact .inr ⟨h.symm, .inr h1⟩
theorem lt_down (x : List Nat) (a b : List Nat) (h : leL a b = true) (hb : lt x b = true) : lt x a = true := by
  unfold leL lt at *
  simp at *
  exact List.lt_of_le_of_lt h hb
theorem lx_down : ∀ (x a b : List Nat), leL a b = true → lx x b = true → lx x a = true
  | [], a, b, _, _ => by simp [lx]
  | c :: x, [], b, _, _ => by simp [lx]
  | c :: x, l :: a, [], h, _ => by simp [leL] at h
  | c :: x, l :: a, m :: b, h, hb => by
    rw [← pre_lx] at hb ⊢
    unfold pre at hb ⊢
    unfold leL at h
    simp [List.cons_le_cons_iff] at h
    simp at hb ⊢
    rcases h with h | ⟨rfl, h⟩
    · rcases hb with hb | ⟨rfl, hb⟩
      · exact .inl (by omega)
      · exact .inl h
    · rcases hb with hb | ⟨hb1, hb⟩
      · exact .inl hb
      · exact .inr ⟨hb1, lx_down x a b (by simpa [leL] using h) hb⟩
/-- where a part's tails stand -/
def rg (s x : List Nat) : Nat × Nat := ((T s).countP (lt x), (T s).countP (lx x))
theorem rg_cons (w : List Nat) (c : Nat) (hc : 46 < c) (x : List Nat) : rg (w ++ [46]) (c :: x) = ((La (w ++ [46])).countP (fun l => decide (l < c)) + ((La (w ++ [46])).take (rg (w ++ [46]) x).1).count c, (La (w ++ [46])).countP (fun l => decide (l < c)) + ((La (w ++ [46])).take (rg (w ++ [46]) x).2).count c) := by
  unfold rg
  rw [← pre_lt, ← pre_lx, back_step w c hc _ (lt_down x), back_step w c hc _ (lx_down x)]
theorem T_len (s : List Nat) : (T s).length = s.length := by
  rw [(T_perm s).length_eq, tails_map, List.length_map, List.length_range]
theorem La_len (s : List Nat) : (La s).length = s.length := by rw [La, List.length_map, T_len]
theorem rg_nil (s : List Nat) : rg s [] = (0, s.length) := by
  unfold rg
  rw [← T_len s]
  congr 1
  · rw [List.countP_eq_zero]; intro a _; simp [lt]
  · rw [List.countP_eq_length]; intro a _; simp [lx]
theorem lx_split (s x : List Nat) : (rg s x).2 = (rg s x).1 + (T s).countP (fun t => x.isPrefixOf t) := by
  unfold rg
  simp only
  generalize T s = l
  induction l with
  | nil => rfl
  | cons t l ih =>
    rw [List.countP_cons, List.countP_cons, List.countP_cons, ih]
    by_cases h : x.isPrefixOf t = true
    · have h' : ¬ t < x := by
        rw [List.isPrefixOf_iff_prefix] at h
        obtain ⟨r, rfl⟩ := h
        rw [List.not_lt]
        clear ih
        induction x with
        | nil => simp
        | cons a x ihx => simpa [List.cons_le_cons_iff] using ihx
      simp [lx, lt, h, h']
      omega
    · simp [lx, lt, h]
      omega
/-! ### the look-up by steps -/
def lkStep (L : List Nat) (c : Nat) (p : Nat × Nat) : Nat × Nat := (L.countP (fun l => decide (l < c)) + (L.take p.1).count c, L.countP (fun l => decide (l < c)) + (L.take p.2).count c)
/-- the ranges of a part, its letters from the last on -/
def lk (L : List Nat) : List Nat → Nat × Nat → List (Nat × Nat)
  | [], p => [p]
  | c :: r, p => p :: lk L r (lkStep L c p)
theorem lk_rg (w : List Nat) : ∀ (r y : List Nat), (∀ c ∈ r, 46 < c) → lk (La (w ++ [46])) r (rg (w ++ [46]) y) = (List.range (r.length + 1)).map fun t => rg (w ++ [46]) ((r.take t).reverse ++ y)
  | [], y, _ => by simp [lk]
  | c :: r, y, h => by
    have e : lkStep (La (w ++ [46])) c (rg (w ++ [46]) y) = rg (w ++ [46]) (c :: y) := (rg_cons w c (h c (List.mem_cons_self ..)) y).symm
    rw [lk, e, lk_rg w r (c :: y) fun d hd => h d (List.mem_cons_of_mem _ hd), List.length_cons, List.range_succ_eq_map (n := r.length + 1), List.map_cons, List.map_map]
    congr 1
    refine List.map_congr_left fun t _ => ?_
    simp
/-- the ranges of all tails of a part, the shortest first -/
def rgs (s x : List Nat) : List (Nat × Nat) := (List.range (x.length + 1)).map fun t => rg s (x.drop (x.length - t))
theorem lk_rgs (w x : List Nat) (h : ∀ c ∈ x, 46 < c) : lk (La (w ++ [46])) x.reverse (0, (La (w ++ [46])).length) = rgs (w ++ [46]) x := by
  rw [La_len, ← rg_nil, lk_rg w _ _ fun c hc => h c (List.mem_reverse.mp hc), List.length_reverse]
  refine List.map_congr_left fun t _ => ?_
  rw [List.append_nil, List.take_reverse, List.reverse_reverse]
/-! ### where a tail stands -/
theorem tails_nodup : ∀ s : List Nat, (tails s).Nodup
  | [] => .nil
  | a :: l => by
    refine List.nodup_cons.mpr ⟨fun h => ?_, tails_nodup l⟩
    rw [tails_map] at h
    obtain ⟨i, _, hi⟩ := List.mem_map.mp h
    have := congrArg List.length hi
    simp at this
    omega
theorem T_nodup (s : List Nat) : (T s).Nodup := (T_perm s).nodup_iff.mpr (tails_nodup s)
theorem T_mem {s t : List Nat} : t ∈ T s ↔ ∃ i, i < s.length ∧ t = s.drop i := by
  rw [(T_perm s).mem_iff, tails_map]
  simp [eq_comm]
/-- the rank of the one at row i is i -/
theorem rank_at {l : List (List Nat)} (hs : l.Pairwise (fun x y => leL x y = true)) (hn : l.Nodup) {i : Nat} {t : List Nat} (h : l[i]? = some t) : l.countP (lt t) = i := by
  induction l generalizing i with
  | nil => simp at h
  | cons a l ih =>
    have hs' := List.pairwise_cons.mp hs
    have hn' := List.nodup_cons.mp hn
    cases i with
    | zero =>
      simp at h
      subst h
      rw [List.countP_eq_zero]
      intro b hb
      rcases List.mem_cons.mp hb with rfl | hb
      · simp [lt]
      · have := hs'.1 b hb
        unfold leL at this
        simp [lt] at this ⊢
        exact this
    | succ i =>
      simp at h
      have hm : t ∈ l := List.mem_of_getElem? h
      have h1 : lt t a = true := by
        have h2 := hs'.1 t hm
        unfold leL at h2
        simp [lt] at h2 ⊢
        rcases List.le_iff_lt_or_eq.mp h2 with h3 | h3
        · exact h3
        · subst h3; exact absurd hm hn'.1
      rw [List.countP_cons_of_pos h1, ih hs'.2 hn'.2 h]
/-! ### steps -/
def stp (L : List Nat) (i : Nat) : Nat := L.countP (fun l => decide (l < L.getD i 0)) + (L.take i).count (L.getD i 0)
theorem La_at {s t : List Nat} {i : Nat} (h : (T s)[i]? = some t) : (La s).getD i 0 = bf s t := by
  rw [La, List.getD_eq_getElem?_getD, List.getElem?_map, h]
  rfl
/-- the step from a tail that is not the whole -/
theorem stp_up {w t : List Nat} (hw : ∀ c ∈ w, 46 < c) {i : Nat} (h : (T (w ++ [46]))[i]? = some t) (ht : t.length < (w ++ [46]).length) :
    bf (w ++ [46]) t :: t ∈ T (w ++ [46]) ∧ (T (w ++ [46]))[stp (La (w ++ [46])) i]? = some (bf (w ++ [46]) t :: t) := by
  have hn : (w ++ [46]).length = w.length + 1 := by simp
  obtain ⟨j, hj, rfl⟩ := T_mem.mp (List.mem_of_getElem? h)
  have e : ((w ++ [46]).drop j).length = w.length + 1 - j := by rw [List.length_drop, hn]
  rw [e, hn] at ht
  obtain ⟨k, rfl⟩ : ∃ k, j = k + 1 := ⟨j - 1, by omega⟩
  have hk : k < w.length := by omega
  have eb : bf (w ++ [46]) ((w ++ [46]).drop (k + 1)) = w[k] := by
    unfold bf
    rw [e, hn, if_neg (by omega), show w.length + 1 - (w.length + 1 - (k + 1)) - 1 = k by omega, List.getD_eq_getElem?_getD, List.getElem?_append_left hk, List.getElem?_eq_getElem hk]
    rfl
  have ed : bf (w ++ [46]) ((w ++ [46]).drop (k + 1)) :: (w ++ [46]).drop (k + 1) = (w ++ [46]).drop k := by
    rw [eb, List.drop_eq_getElem_cons (i := k) (by rw [hn]; omega), List.getElem_append_left hk]
  have hm : bf (w ++ [46]) ((w ++ [46]).drop (k + 1)) :: (w ++ [46]).drop (k + 1) ∈ T (w ++ [46]) := by
    rw [ed]
    exact T_mem.mpr ⟨k, by omega, rfl⟩
  refine ⟨hm, ?_⟩
  have hr := rank_at (T_sorted _) (T_nodup _) h
  have hs : stp (La (w ++ [46])) i = (T (w ++ [46])).countP (lt (bf (w ++ [46]) ((w ++ [46]).drop (k + 1)) :: (w ++ [46]).drop (k + 1))) := by
    rw [← pre_lt, back_step w _ (by rw [eb]; exact hw _ (List.getElem_mem hk)) _ (lt_down _), hr]
    unfold stp
    rw [La_at h]
  rw [hs]
  obtain ⟨r, hr'⟩ := List.mem_iff_getElem?.mp hm
  rw [rank_at (T_sorted _) (T_nodup _) hr']
  exact hr'
theorem bf_dot {w t : List Nat} (hw : ∀ c ∈ w, 46 < c) (ht : t ∈ T (w ++ [46])) : 46 ≤ bf (w ++ [46]) t ∧ (bf (w ++ [46]) t = 46 → t.length = (w ++ [46]).length) := by
  obtain ⟨j, hj, rfl⟩ := T_mem.mp ht
  have hn : (w ++ [46]).length = w.length + 1 := by simp
  have e : ((w ++ [46]).drop j).length = w.length + 1 - j := by rw [List.length_drop, hn]
  cases j with
  | zero => simp [bf]
  | succ k =>
    have hk : k < w.length := by omega
    have eb : bf (w ++ [46]) ((w ++ [46]).drop (k + 1)) = w[k] := by
      unfold bf
      rw [e, hn, if_neg (by omega), show w.length + 1 - (w.length + 1 - (k + 1)) - 1 = k by omega, List.getD_eq_getElem?_getD, List.getElem?_append_left hk, List.getElem?_eq_getElem hk]
      rfl
    have := hw _ (List.getElem_mem hk)
    rw [eb]
    exact ⟨by omega, fun h => by omega⟩
theorem whole {s t : List Nat} (h : t ∈ T s) (hl : t.length = s.length) : t = s := by
  obtain ⟨j, hj, rfl⟩ := T_mem.mp h
  rw [List.length_drop] at hl
  rw [show j = 0 by omega, List.drop_zero]
/-- the step from the whole -/
theorem stp_whole {w : List Nat} (hw : ∀ c ∈ w, 46 < c) {i : Nat} (h : (T (w ++ [46]))[i]? = some (w ++ [46])) : stp (La (w ++ [46])) i = 0 := by
  unfold stp
  rw [La_at h, show bf (w ++ [46]) (w ++ [46]) = 46 by simp [bf]]
  have h1 : (La (w ++ [46])).countP (fun l => decide (l < 46)) = 0 := by
    rw [List.countP_eq_zero]
    intro l hl
    obtain ⟨t, ht, rfl⟩ := List.mem_map.mp hl
    have := (bf_dot hw ht).1
    simp
    omega
  have h2 : ((La (w ++ [46])).take i).count 46 = 0 := by
    rw [List.count_eq_zero]
    intro hm
    rw [La, ← List.map_take] at hm
    obtain ⟨t, ht, e⟩ := List.mem_map.mp hm
    have htT := List.mem_of_mem_take ht
    have := whole htT ((bf_dot hw htT).2 e)
    subst this
    obtain ⟨j, hj, hj2⟩ := List.mem_iff_getElem.mp ht
    rw [List.getElem_take] at hj2
    have hj3 : j < i := by
      have := List.length_take_le i (T (w ++ [46]))
      omega
    have hi : i < (T (w ++ [46])).length := (List.getElem?_eq_some_iff.mp h).1
    have hi2 : (T (w ++ [46]))[i] = w ++ [46] := (List.getElem?_eq_some_iff.mp h).2
    have := (List.nodup_iff_pairwise_ne.mp (T_nodup (w ++ [46])))
    rw [List.pairwise_iff_getElem] at this
    exact this j i (by omega) hi hj3 (by rw [hj2, hi2])
  rw [h1, h2]
/-- the row of the tail with k letters and the dot -/
def row (w : List Nat) (k : Nat) : Nat := (T (w ++ [46])).countP (lt ((w ++ [46]).drop (w.length - k)))
theorem row_at (w : List Nat) (k : Nat) : (T (w ++ [46]))[row w k]? = some ((w ++ [46]).drop (w.length - k)) := by
  have hm : (w ++ [46]).drop (w.length - k) ∈ T (w ++ [46]) := T_mem.mpr ⟨w.length - k, by simp; omega, rfl⟩
  obtain ⟨r, hr⟩ := List.mem_iff_getElem?.mp hm
  unfold row
  rw [rank_at (T_sorted _) (T_nodup _) hr]
  exact hr
theorem row_next {w : List Nat} (hw : ∀ c ∈ w, 46 < c) {k : Nat} (hk : k < w.length) : stp (La (w ++ [46])) (row w k) = row w (k + 1) := by
  have hn : (w ++ [46]).length = w.length + 1 := by simp
  obtain ⟨_, h2⟩ := stp_up hw (row_at w k) (by rw [List.length_drop, hn]; omega)
  have e : bf (w ++ [46]) ((w ++ [46]).drop (w.length - k)) :: (w ++ [46]).drop (w.length - k) = (w ++ [46]).drop (w.length - (k + 1)) := by
    have hj : w.length - (k + 1) < w.length := by omega
    have el : ((w ++ [46]).drop (w.length - k)).length = k + 1 := by rw [List.length_drop, hn]; omega
    rw [List.drop_eq_getElem_cons (i := w.length - (k + 1)) (by rw [hn]; omega), show w.length - (k + 1) + 1 = w.length - k by omega]
    congr 1
    unfold bf
    have ix : (w ++ [46]).length - (k + 1) - 1 = w.length - (k + 1) := by
      rw [hn]
      omega
    rw [el, if_neg (by rw [hn]; omega), ix, List.getD_eq_getElem?_getD, List.getElem?_eq_getElem (by rw [hn]; omega)]
    rfl
  rw [e] at h2
  rw [← rank_at (T_sorted _) (T_nodup _) h2]
  rfl
theorem row_last {w : List Nat} (hw : ∀ c ∈ w, 46 < c) : stp (La (w ++ [46])) (row w w.length) = 0 := by
  refine stp_whole hw ?_
  have := row_at w w.length
  rwa [Nat.sub_self, List.drop_zero] at this
theorem row_zero {w : List Nat} (hw : ∀ c ∈ w, 46 < c) : row w 0 = 0 := by
  unfold row
  rw [List.countP_eq_zero]
  intro t ht
  obtain ⟨j, hj, rfl⟩ := T_mem.mp ht
  rw [List.drop_eq_getElem_cons hj]
  have h46 : 46 ≤ (w ++ [46])[j] := by
    have hm := List.getElem_mem hj
    rcases List.mem_append.mp hm with h | h
    · exact Nat.le_of_lt (hw _ h)
    · simp at h; omega
  have e46 : (w ++ [46]).drop (w.length - 0) = [46] := by simp
  rw [e46]
  unfold lt
  rw [decide_eq_true_eq, List.cons_lt_cons_iff]
  rintro (h | ⟨_, h⟩)
  · omega
  · simp at h
theorem row_pos {w : List Nat} (hw : ∀ c ∈ w, 46 < c) {k : Nat} (h : k < w.length) : row w (k + 1) ≠ 0 := by
  intro e
  have h1 := row_at w (k + 1)
  have h2 := row_at w 0
  rw [row_zero hw] at h2
  rw [e, h2] at h1
  have := congrArg List.length (Option.some.inj h1)
  simp at this
  omega
end B
end

section
set_option Elab.async false
set_option linter.all false
set_option maxRecDepth 100000
set_option maxHeartbeats 1000000
/-! Rows of sorted pairs. -/
namespace B
def leP (p q : Nat × Nat) : Bool := decide (p.1 < q.1) || (p.1 == q.1 && decide (p.2 ≤ q.2))
theorem leP_iff {p q : Nat × Nat} : leP p q = true ↔ p.1 < q.1 ∨ (p.1 = q.1 ∧ p.2 ≤ q.2) := by
  unfold leP
  simp
theorem leP_tot (p q : Nat × Nat) (h : leP p q = false) : leP q p = true := by
  have h' : ¬ leP p q = true := by rw [h]; simp
  rw [leP_iff] at *
  omega
theorem leP_tr (p q r : Nat × Nat) (h : leP p q = true) (h' : leP q r = true) : leP p r = true := by
  rw [leP_iff] at *
  omega
/-- the sorted pairs of a text's signs -/
def SP (L : List Nat) : List (Nat × Nat) := srt leP L.zipIdx
theorem SP_perm (L : List Nat) : (SP L).Perm L.zipIdx := srt_perm _ _
theorem zip_mem {L : List Nat} {p : Nat × Nat} : p ∈ L.zipIdx ↔ L[p.2]? = some p.1 := by
  obtain ⟨a, b⟩ := p
  rw [List.mk_mem_zipIdx_iff_getElem?]
theorem SP_len (L : List Nat) : (SP L).length = L.length := by rw [(SP_perm L).length_eq, List.length_zipIdx]
theorem zip_places : ∀ (L : List Nat) (k : Nat), ((L.zipIdx k).map (·.2)) = List.range' k L.length
  | [], _ => rfl
  | a :: l, k => by
    rw [List.zipIdx_cons, List.map_cons, zip_places l (k + 1), List.length_cons, List.range'_succ]
theorem SP_places (L : List Nat) : ((SP L).map (·.2)).Nodup := by
  rw [((SP_perm L).map _).nodup_iff, zip_places]
  exact List.nodup_range'
/-- how many pairs are below that of i -/
def ltP (q p : Nat × Nat) : Bool := !leP q p
theorem rank_zip (c : Nat) : ∀ (L : List Nat) (k i : Nat), k ≤ i → (L.zipIdx k).countP (ltP (c, i)) = L.countP (fun l => decide (l < c)) + (L.take (i - k)).count c
  | [], _, _, _ => by simp
  | a :: l, k, i, h => by
    rw [List.zipIdx_cons, List.countP_cons, List.countP_cons]
    by_cases hk : k = i
    · subst hk
      have e : (l.zipIdx (k + 1)).countP (ltP (c, k)) = l.countP (fun l => decide (l < c)) := by
        have : ∀ (l : List Nat) (m : Nat), k < m → (l.zipIdx m).countP (ltP (c, k)) = l.countP (fun l => decide (l < c)) := by
          intro l
          induction l with
          | nil => intro m _; rfl
          | cons b l ih =>
            intro m hm
            rw [List.zipIdx_cons, List.countP_cons, List.countP_cons, ih (m + 1) (by omega)]
            congr 1
            have : ltP (c, k) (b, m) = decide (b < c) := by
              rw [Bool.eq_iff_iff]
              unfold ltP
              rw [Bool.not_eq_true', ← Bool.not_eq_true, leP_iff]
              simp
              omega
            rw [this]
        exact this l (k + 1) (by omega)
      rw [e]
      have : ltP (c, k) (a, k) = decide (a < c) := by
        rw [Bool.eq_iff_iff]
        unfold ltP
        rw [Bool.not_eq_true', ← Bool.not_eq_true, leP_iff]
        simp
        omega
      rw [this]
      simp
    · rw [rank_zip c l (k + 1) i (by omega), show i - k = (i - (k + 1)) + 1 by omega, List.take_succ_cons, List.count_cons]
      have : ltP (c, i) (a, k) = (decide (a < c) || a == c) := by
        rw [Bool.eq_iff_iff]
        unfold ltP
        rw [Bool.not_eq_true', ← Bool.not_eq_true, leP_iff]
        simp
        omega
      rw [this]
      by_cases h1 : a < c
      · have : ¬ a = c := by omega
        simp [h1, this]
        omega
      · simp [h1]
        omega
theorem rank_row {l : List (Nat × Nat)} (hs : l.Pairwise (fun x y => leP x y = true)) (hn : (l.map (·.2)).Nodup) {r : Nat} {q : Nat × Nat} (h : l[r]? = some q) : l.countP (ltP q) = r := by
  induction l generalizing r with
  | nil => simp at h
  | cons a l ih =>
    have hs' := List.pairwise_cons.mp hs
    have hn' := List.nodup_cons.mp hn
    cases r with
    | zero =>
      simp at h
      subst h
      rw [List.countP_eq_zero]
      intro b hb
      rcases List.mem_cons.mp hb with rfl | hb
      · simp [ltP, leP]
      · simp [ltP, hs'.1 b hb]
    | succ r =>
      simp at h
      have hm : q ∈ l := List.mem_of_getElem? h
      have h1 : ltP q a = true := by
        unfold ltP
        have h2 := hs'.1 q hm
        rw [leP_iff] at h2
        rw [Bool.not_eq_true', ← Bool.not_eq_true, leP_iff]
        have h3 : a.2 ≠ q.2 := fun e => hn'.1 (List.mem_map.mpr ⟨q, hm, e.symm⟩)
        omega
      rw [List.countP_cons_of_pos h1, ih hs'.2 hn'.2 h]
/-- rows written at their places -/
def wr (f : List Nat) : List ((Nat × Nat) × Nat) → List Nat
  | [] => f
  | q :: r => wr (f.set q.1.2 q.2) r
theorem wr_len : ∀ (r : List ((Nat × Nat) × Nat)) (f : List Nat), (wr f r).length = f.length
  | [], _ => rfl
  | q :: r, f => by rw [wr, wr_len r, List.length_set]
theorem wr_out : ∀ (r : List ((Nat × Nat) × Nat)) (f : List Nat) (i : Nat), i ∉ r.map (·.1.2) → (wr f r)[i]? = f[i]?
  | [], _, _, _ => rfl
  | q :: r, f, i, h => by
    simp at h
    rw [wr, wr_out r _ i (by simpa using h.2), List.getElem?_set_ne (fun e => h.1 e.symm)]
theorem wr_in : ∀ (r : List ((Nat × Nat) × Nat)) (f : List Nat) (q : (Nat × Nat) × Nat), (r.map (·.1.2)).Nodup → q ∈ r → q.1.2 < f.length → (wr f r)[q.1.2]? = some q.2
  | [], _, _, _, h, _ => by cases h
  | p :: r, f, q, hn, h, hl => by
    have hn' := List.nodup_cons.mp hn
    rw [wr]
    rcases List.mem_cons.mp h with rfl | h
    · rw [wr_out r _ _ hn'.1, List.getElem?_set_self hl]
    · exact wr_in r _ q hn'.2 h (by rw [List.length_set]; exact hl)
theorem steps_are (L : List Nat) : wr (List.replicate L.length 0) (SP L).zipIdx = (List.range L.length).map (stp L) := by
  apply List.ext_getElem?
  intro i
  by_cases hi : i < L.length
  · rw [List.getElem?_map, List.getElem?_range hi]
    have hm : (L[i], i) ∈ SP L := (SP_perm L).mem_iff.mpr (zip_mem.mpr (by simp [hi]))
    obtain ⟨r, hr⟩ := List.mem_iff_getElem?.mp hm
    have h1 : ((L[i], i), r) ∈ (SP L).zipIdx := by rw [List.mk_mem_zipIdx_iff_getElem?]; exact hr
    have h2 : (((SP L).zipIdx).map (·.1.2)).Nodup := by
      have : ((SP L).zipIdx).map (·.1.2) = (SP L).map (·.2) := by
        rw [show (fun x : (Nat × Nat) × Nat => x.1.2) = (fun p : Nat × Nat => p.2) ∘ (fun x : (Nat × Nat) × Nat => x.1) from rfl, ← List.map_map, List.zipIdx_map_fst]
      rw [this]
      exact SP_places L
    rw [wr_in _ _ _ h2 h1 (by simpa using hi)]
    have h3 := rank_row (srt_sorted leP_tot leP_tr _) (SP_places L) hr
    have h4 := (SP_perm L).countP_eq (ltP (L[i], i))
    rw [rank_zip L[i] L 0 i (by omega)] at h4
    have h5 : r = stp L i := by
      rw [← h3]
      show (SP L).countP _ = _
      rw [h4]
      unfold stp
      simp [List.getD_eq_getElem?_getD, hi]
    rw [h5]
    rfl
  · rw [List.getElem?_eq_none (by rw [wr_len]; simpa using hi), List.getElem?_eq_none (by simpa using hi)]
end B
end

section
set_option Elab.async false
set_option linter.all false
set_option maxRecDepth 100000
set_option maxHeartbeats 1000000
/-! The way back; the places of a part. -/
namespace B
theorem La_row {w : List Nat} {k : Nat} (hk : k ≤ w.length) : (La (w ++ [46])).getD (row w k) 0 = if k < w.length then w.getD (w.length - k - 1) 0 else 46 := by
  rw [La_at (row_at w k)]
  unfold bf
  have hn : (w ++ [46]).length = w.length + 1 := by simp
  have e : ((w ++ [46]).drop (w.length - k)).length = k + 1 := by rw [List.length_drop, hn]; omega
  rw [e, hn]
  by_cases h : k < w.length
  · rw [if_neg (by omega), if_pos h, show w.length + 1 - (k + 1) - 1 = w.length - k - 1 by omega]
    rw [List.getD_eq_getElem?_getD, List.getD_eq_getElem?_getD, List.getElem?_append_left (by omega)]
  · rw [if_pos (by omega), if_neg h]
theorem La_rows (w : List Nat) : (List.range (w.length + 1)).map (fun k => (La (w ++ [46])).getD (row w k) 0) = w.reverse ++ [46] := by
  apply List.ext_getElem?
  intro i
  by_cases hi : i < w.length + 1
  · rw [List.getElem?_map, List.getElem?_range hi]
    show some ((La (w ++ [46])).getD (row w i) 0) = _
    rw [La_row (by omega)]
    by_cases h : i < w.length
    · rw [if_pos h, List.getElem?_append_left (by simpa using h), List.getElem?_reverse h, List.getD_eq_getElem?_getD, show w.length - i - 1 = w.length - 1 - i by omega, List.getElem?_eq_getElem (by omega)]
      rfl
    · rw [if_neg h, List.getElem?_append_right (by simp; omega), show i - w.reverse.length = 0 by simp; omega]
      rfl
  · rw [List.getElem?_eq_none (by simpa using hi), List.getElem?_eq_none (by simp; omega)]
theorem row_lt (w : List Nat) (k : Nat) : row w k < w.length + 1 := by
  have h := (List.getElem?_eq_some_iff.mp (row_at w k)).1
  rw [T_len] at h
  simpa using h
/-- what of a sorted list is not below stands behind -/
theorem filter_drop {α : Type} {R : α → α → Prop} (p : α → Bool) : ∀ {l : List α}, l.Pairwise R → (∀ a b, R a b → p b = true → p a = true) → l.filter (fun a => !p a) = l.drop (l.countP p)
  | [], _, _ => rfl
  | a :: l, h, hd => by
    have h' := List.pairwise_cons.mp h
    by_cases ha : p a = true
    · rw [List.filter_cons_of_neg (by simp [ha]), List.countP_cons_of_pos ha, List.drop_succ_cons, filter_drop p h'.2 hd]
    · have hn : ∀ b ∈ l, ¬ p b = true := fun b hb hp => ha (hd a b (h'.1 b hb) hp)
      rw [List.filter_cons_of_pos (by simpa using ha), List.countP_cons_of_neg ha, List.countP_eq_zero.mpr hn, List.drop_zero, List.filter_eq_self.mpr]
      intro b hb
      simpa using hn b hb
theorem pf_not_lt {x t : List Nat} (h : x.isPrefixOf t = true) : lt x t = false := by
  rw [List.isPrefixOf_iff_prefix] at h
  obtain ⟨r, rfl⟩ := h
  unfold lt
  rw [decide_eq_false_iff_not, List.not_lt]
  induction x with
  | nil => simp
  | cons a x ihx => simpa [List.cons_le_cons_iff] using ihx
theorem slice_pf (s x : List Nat) : ((T s).drop (rg s x).1).take ((rg s x).2 - (rg s x).1) = (T s).filter fun t => x.isPrefixOf t := by
  rw [← List.drop_take]
  have e1 : (T s).take (rg s x).2 = (T s).filter (lx x) := (filter_take (lx x) (T_sorted s) (lx_down x)).symm
  rw [e1]
  have e2 : (rg s x).1 = ((T s).filter (lx x)).countP (lt x) := by
    rw [List.countP_filter]
    show (T s).countP (lt x) = _
    refine List.countP_congr fun t _ => ?_
    simp [lx, lt]
    intro h
    exact .inl h
  rw [e2, ← filter_drop (R := fun x y => leL x y = true) (lt x) ((T_sorted s).filter _) (lt_down x), List.filter_filter]
  refine List.filter_congr fun t _ => ?_
  cases h : x.isPrefixOf t with
  | true => simp [pf_not_lt h, lx, h]
  | false => simp [lx, h, lt]
theorem range_filter {p q : Nat → Bool} {a : Nat} (h : ∀ i, i < a → p i = q i) : ∀ d, (∀ i, a ≤ i → i < a + d → p i = false) → (List.range (a + d)).filter p = (List.range a).filter q
  | 0, _ => List.filter_congr fun i hi => h i (List.mem_range.mp hi)
  | d + 1, h' => by
    rw [show a + (d + 1) = (a + d) + 1 by omega, List.range_succ, List.filter_append, range_filter h d fun i h1 h2 => h' i h1 (by omega)]
    simp [h' (a + d) (by omega) (by omega)]
/-- where a part stands -/
def stands (w x : List Nat) : List Nat := (List.range (w.length + 1 - x.length)).filter fun i => (w.drop i).take x.length == x
def leN (a b : Nat) : Bool := decide (a ≤ b)
theorem stands_pf (w x : List Nat) (hx : x ≠ []) (hx' : ∀ c ∈ x, 46 < c) : ((List.range (w.length + 1)).filter fun i => x.isPrefixOf ((w ++ [46]).drop i)) = stands w x := by
  have hk : 0 < x.length := List.length_pos_iff.mpr hx
  have key : ∀ i, i ≤ w.length → (x.isPrefixOf ((w ++ [46]).drop i) = true ↔ i + x.length ≤ w.length ∧ (w.drop i).take x.length = x) := by
    intro i hi
    rw [List.isPrefixOf_iff_prefix, List.drop_append_of_le_length hi, List.prefix_iff_eq_take]
    by_cases h : i + x.length ≤ w.length
    · rw [List.take_append_of_le_length (by rw [List.length_drop]; omega)]
      constructor
      · intro h2; exact ⟨h, h2.symm⟩
      · intro h2; exact h2.2.symm
    · constructor
      · intro h2
        have h3 : x = w.drop i ++ [46] := by
          have hl := congrArg List.length h2
          simp at hl
          rw [List.take_of_length_le (by simp; omega)] at h2
          exact h2
        have : 46 ∈ x := by rw [h3]; simp
        exact absurd (hx' 46 this) (by omega)
      · intro h2; exact absurd h2.1 h
  unfold stands
  by_cases hl : x.length ≤ w.length + 1
  · have := range_filter (p := fun i => x.isPrefixOf ((w ++ [46]).drop i)) (q := fun i => (w.drop i).take x.length == x) (a := w.length + 1 - x.length) (fun i hi => by
      rw [Bool.eq_iff_iff, key i (by omega), beq_iff_eq]
      constructor
      · exact fun h => h.2
      · exact fun h => ⟨by omega, h⟩) x.length (fun i h1 h2 => by
      rw [← Bool.not_eq_true, key i (by omega)]
      omega)
    rw [Nat.sub_add_cancel hl] at this
    exact this
  · rw [show w.length + 1 - x.length = 0 by omega]
    rw [List.filter_eq_nil_iff.mpr]
    · rfl
    · intro i hi
      have := List.mem_range.mp hi
      rw [key i (by omega)]
      omega
theorem places_are (w x : List Nat) (hx : x ≠ []) (hx' : ∀ c ∈ x, 46 < c) :
    srt leN ((((T (w ++ [46])).map fun t => (w ++ [46]).length - t.length).drop (rg (w ++ [46]) x).1).take ((rg (w ++ [46]) x).2 - (rg (w ++ [46]) x).1)) = stands w x := by
  rw [← List.map_drop, ← List.map_take, slice_pf, ← stands_pf w x hx hx']
  have hn : (w ++ [46]).length = w.length + 1 := by simp
  refine sorted_unique (le := leN) (fun a b h1 h2 => by simp [leN] at h1 h2; omega) ?_ (srt_sorted (fun a b h => by simp [leN] at h ⊢; omega) (fun a b c h1 h2 => by simp [leN] at h1 h2 ⊢; omega) _) ?_
  · refine (srt_perm _ _).trans ?_
    have h1 := ((T_perm (w ++ [46])).filter (fun t => x.isPrefixOf t)).map (fun t => (w ++ [46]).length - t.length)
    refine h1.trans ?_
    rw [tails_map, List.filter_map, List.map_map, hn]
    have e : ((List.range (w.length + 1)).filter fun i => x.isPrefixOf ((w ++ [46]).drop i)).map ((fun t : List Nat => w.length + 1 - t.length) ∘ fun i => (w ++ [46]).drop i) = ((List.range (w.length + 1)).filter fun i => x.isPrefixOf ((w ++ [46]).drop i)).map id := by
      refine List.map_congr_left fun i hi => ?_
      have := List.mem_range.mp (List.mem_filter.mp hi).1
      show w.length + 1 - ((w ++ [46]).drop i).length = i
      rw [List.length_drop, hn]
      omega
    show (((List.range (w.length + 1)).filter fun i => x.isPrefixOf ((w ++ [46]).drop i)).map ((fun t : List Nat => w.length + 1 - t.length) ∘ fun i => (w ++ [46]).drop i)).Perm _
    rw [e, List.map_id]
  · refine List.Pairwise.filter _ ?_
    have : ∀ n, (List.range n).Pairwise (fun x y => leN x y = true) := by
      intro n
      refine (List.pairwise_lt_range).imp fun h => ?_
      simp [leN]
      omega
    exact this _
theorem srt_int (l : List Nat) : ∀ {α : Type} (f : Nat → α) (le : α → α → Bool), (∀ a b, le (f a) (f b) = leN a b) → srt le (l.map f) = (srt leN l).map f := fun f le h => srt_map f h l
end B
end

section
set_option Elab.async false
set_option linter.all false
set_option maxRecDepth 100000
set_option maxHeartbeats 1000000
/-! k51: rows without the dot, ends of runs, kept places. -/
namespace B
theorem le_dot : ∀ {a b : List Nat}, (∀ c ∈ b, 46 < c) → leL a b = true → leL (a ++ [46]) (b ++ [46]) = true
  | [], [], _, _ => by simp [leL]
  | [], y :: b, hb, _ => by
    have := hb y (List.mem_cons_self ..)
    simp [leL, List.cons_le_cons_iff]
    omega
  | x :: a, [], _, h => by simp [leL] at h
  | x :: a, y :: b, hb, h => by
    simp [leL, List.cons_le_cons_iff] at h ⊢
    rcases h with h | ⟨rfl, h⟩
    · exact .inl h
    · have := le_dot (a := a) (b := b) (fun c hc => hb c (List.mem_cons_of_mem _ hc)) (by simpa [leL] using h)
      simp [leL] at this
      exact .inr ⟨rfl, this⟩
def tls (w : List Nat) : List (List Nat) := (List.range (w.length + 1)).map fun k => w.drop k
theorem T_tls {w : List Nat} (hw : ∀ c ∈ w, 46 < c) : T (w ++ [46]) = (srt leL (tls w)).map (· ++ [46]) := by
  unfold T
  have hn : (w ++ [46]).length = w.length + 1 := by simp
  have e : tails (w ++ [46]) = (tls w).map (· ++ [46]) := by
    rw [tails_map, hn, tls, List.map_map]
    refine List.map_congr_left fun k hk => ?_
    have := List.mem_range.mp hk
    show (w ++ [46]).drop k = w.drop k ++ [46]
    rw [List.drop_append_of_le_length (by omega)]
  rw [e]
  refine sorted_unique leL_anti ?_ (srt_sorted leL_tot leL_tr _) ?_
  · exact (srt_perm leL _).trans ((srt_perm leL (tls w)).map _).symm
  · rw [List.pairwise_map]
    refine (srt_sorted leL_tot leL_tr (tls w)).imp_of_mem fun {a b} _ hb h => ?_
    refine le_dot (fun c hc => ?_) h
    have := (srt_perm leL (tls w)).mem_iff.mp hb
    obtain ⟨k, _, rfl⟩ := List.mem_map.mp this
    exact hw c (List.drop_subset _ _ hc)
def at_ (w : List Nat) : List Nat := (T (w ++ [46])).map fun t => (w ++ [46]).length - t.length
theorem rows_at {w : List Nat} (hw : ∀ c ∈ w, 46 < c) : (srt leL (tls w)).map (fun t => w.length - t.length) = at_ w := by
  unfold at_
  rw [T_tls hw, List.map_map]
  refine List.map_congr_left fun t _ => ?_
  simp
/-- less signs, sign by sign -/
theorem less_sum (s : Nat) : ∀ (L : List Nat), (∀ l ∈ L, l = 46 ∨ (97 ≤ l ∧ l ≤ 100)) → L.countP (fun l => decide (l < s)) = (if 46 < s then L.count 46 else 0) + (if 97 < s then L.count 97 else 0) + (if 98 < s then L.count 98 else 0) + (if 99 < s then L.count 99 else 0) + (if 100 < s then L.count 100 else 0)
  | [], _ => by simp
  | a :: L, h => by
    have ih := less_sum s L fun l hl => h l (List.mem_cons_of_mem _ hl)
    have ha := h a (List.mem_cons_self ..)
    rw [List.countP_cons, ih]
    have : a = 46 ∨ a = 97 ∨ a = 98 ∨ a = 99 ∨ a = 100 := by omega
    rcases this with rfl | rfl | rfl | rfl | rfl <;> simp [List.count_cons] <;> (repeat' split) <;> omega
/-- ends of runs -/
def en (w : List Nat) (k : Nat) : Bool := (La (w ++ [46])).getD k 0 != 46 && (k == w.length || (La (w ++ [46])).getD (k + 1) 0 != (La (w ++ [46])).getD k 0)
def EN (w : List Nat) : List Nat := ((List.range (w.length + 1)).filter (en w)).map fun k => (at_ w).getD k 0 - 1
theorem last_at (c : Nat) : ∀ (L : List Nat) (h : Nat), h ≤ L.length → 0 < (L.take h).count c → ∃ r, r < h ∧ L.getD r 0 = c ∧ (L.take h).count c = (L.take r).count c + 1 ∧ ∀ j, r < j → j < h → L.getD j 0 ≠ c
  | L, 0, _, hc => by simp at hc
  | L, h + 1, hl, hc => by
    have e : L.take (h + 1) = L.take h ++ [L[h]] := by rw [List.take_succ, List.getElem?_eq_getElem (by omega)]; rfl
    by_cases hx : L[h] = c
    · refine ⟨h, by omega, by rw [List.getD_eq_getElem?_getD, List.getElem?_eq_getElem (by omega)]; exact hx, by rw [e, List.count_append, hx]; simp, fun j h1 h2 => by omega⟩
    · have ec : (L.take (h + 1)).count c = (L.take h).count c := by
        rw [e, List.count_append]
        simp [hx]
      obtain ⟨r, h1, h2, h3, h4⟩ := last_at c L h (by omega) (by omega)
      refine ⟨r, by omega, h2, by omega, fun j h5 h6 => ?_⟩
      by_cases hj : j = h
      · subst hj
        rw [List.getD_eq_getElem?_getD, List.getElem?_eq_getElem (by omega)]
        exact hx
      · exact h4 j h5 (by omega)
theorem at_getD {w : List Nat} {i : Nat} {t : List Nat} (h : (T (w ++ [46]))[i]? = some t) : (at_ w).getD i 0 = w.length + 1 - t.length := by
  unfold at_
  rw [List.getD_eq_getElem?_getD, List.getElem?_map, h]
  simp
/-- the step of what is kept -/
theorem kept_step {w : List Nat} (hw : ∀ c ∈ w, 46 < c) {c : Nat} (hc : 46 < c) {y : List Nat} (hne : (rg (w ++ [46]) (c :: y)).1 < (rg (w ++ [46]) (c :: y)).2) (hhi : 0 < (rg (w ++ [46]) y).2) :
    ((La (w ++ [46])).getD ((rg (w ++ [46]) y).2 - 1) 0 = c → (at_ w).getD ((rg (w ++ [46]) (c :: y)).2 - 1) 0 + 1 = (at_ w).getD ((rg (w ++ [46]) y).2 - 1) 0 ∧ ((rg (w ++ [46]) y).2 = w.length + 1 → (at_ w).getD ((rg (w ++ [46]) (c :: y)).2 - 1) 0 ∈ EN w)) ∧
    ((La (w ++ [46])).getD ((rg (w ++ [46]) y).2 - 1) 0 ≠ c → (at_ w).getD ((rg (w ++ [46]) (c :: y)).2 - 1) 0 ∈ EN w) := by
  have hll : (La (w ++ [46])).length = w.length + 1 := by rw [La_len]; simp
  have hle : (rg (w ++ [46]) y).2 ≤ w.length + 1 := by
    have h : (T (w ++ [46])).countP (lx y) ≤ (T (w ++ [46])).length := List.countP_le_length
    rw [T_len] at h
    have hn : (w ++ [46]).length = w.length + 1 := by simp
    rw [hn] at h
    exact h
  have e := rg_cons w c hc y
  rw [e] at hne ⊢
  simp only at hne ⊢
  obtain ⟨r, h1, h2, h3, h4⟩ := last_at c (La (w ++ [46])) (rg (w ++ [46]) y).2 (by omega) (by omega)
  have hrl : r < (T (w ++ [46])).length := by
    rw [T_len]
    simp
    omega
  obtain ⟨t, ht⟩ : ∃ t, (T (w ++ [46]))[r]? = some t := ⟨_, List.getElem?_eq_getElem hrl⟩
  have hb : bf (w ++ [46]) t = c := by rw [← La_at ht]; exact h2
  have htl : t.length < (w ++ [46]).length := by
    obtain ⟨j, hj, hjt⟩ := T_mem.mp (List.mem_of_getElem? ht)
    by_cases hq : t.length = (w ++ [46]).length
    · have hh : bf (w ++ [46]) t = 46 := by unfold bf; rw [if_pos hq]
      omega
    · have : t.length ≤ (w ++ [46]).length := by rw [hjt, List.length_drop]; omega
      omega
  obtain ⟨_, hs⟩ := stp_up hw ht htl
  have hst : stp (La (w ++ [46])) r = (La (w ++ [46])).countP (fun l => decide (l < c)) + ((La (w ++ [46])).take (rg (w ++ [46]) y).2).count c - 1 := by
    unfold stp
    rw [h2]
    omega
  rw [hst] at hs
  have a1 := at_getD hs
  have a2 := at_getD ht
  rw [List.length_cons] at a1
  have hn : (w ++ [46]).length = w.length + 1 := by simp
  rw [hn] at htl
  have hat : (at_ w).getD ((La (w ++ [46])).countP (fun l => decide (l < c)) + ((La (w ++ [46])).take (rg (w ++ [46]) y).2).count c - 1) 0 + 1 = (at_ w).getD r 0 := by omega
  have hen : (r = w.length ∨ (La (w ++ [46])).getD (r + 1) 0 ≠ c) → (at_ w).getD r 0 - 1 ∈ EN w := by
    intro h5
    refine List.mem_map.mpr ⟨r, List.mem_filter.mpr ⟨List.mem_range.mpr (by omega), ?_⟩, rfl⟩
    unfold en
    rw [h2]
    rw [Bool.and_eq_true, Bool.or_eq_true]
    refine ⟨by simp; omega, ?_⟩
    rcases h5 with h5 | h5
    · left; simpa using h5
    · right; simpa using h5
  have heq : (at_ w).getD ((La (w ++ [46])).countP (fun l => decide (l < c)) + ((La (w ++ [46])).take (rg (w ++ [46]) y).2).count c - 1) 0 = (at_ w).getD r 0 - 1 := by omega
  refine ⟨fun hon => ?_, fun hoff => ?_⟩
  · have hr : r = (rg (w ++ [46]) y).2 - 1 := by
      by_cases hq : r = (rg (w ++ [46]) y).2 - 1
      · exact hq
      · exact absurd hon (h4 _ (by omega) (by omega))
    refine ⟨by rw [← hr]; exact hat, fun hfull => ?_⟩
    rw [heq]
    exact hen (.inl (by omega))
  · rw [heq]
    refine hen (.inr ?_)
    have hr : r ≠ (rg (w ++ [46]) y).2 - 1 := by
      intro hq
      rw [hq] at h2
      exact hoff h2
    exact h4 _ (by omega) (by omega)
/-- the last kept place is one where the part stands -/
theorem last_stands {w x : List Nat} (hx : x ≠ []) (hx' : ∀ c ∈ x, 46 < c) (hne : (rg (w ++ [46]) x).1 < (rg (w ++ [46]) x).2) : (at_ w).getD ((rg (w ++ [46]) x).2 - 1) 0 ∈ stands w x := by
  have h := places_are w x hx hx'
  rw [← h, (srt_perm leN _).mem_iff]
  have hle : (rg (w ++ [46]) x).2 ≤ (T (w ++ [46])).length := List.countP_le_length
  have : (at_ w).getD ((rg (w ++ [46]) x).2 - 1) 0 = (at_ w)[(rg (w ++ [46]) x).2 - 1]'(by unfold at_; rw [List.length_map]; omega) := by
    rw [List.getD_eq_getElem?_getD, List.getElem?_eq_getElem (by unfold at_; rw [List.length_map]; omega)]
    rfl
  rw [this]
  refine List.mem_iff_getElem?.mpr ⟨(rg (w ++ [46]) x).2 - 1 - (rg (w ++ [46]) x).1, ?_⟩
  rw [List.getElem?_take_of_lt (by omega), List.getElem?_drop, show (rg (w ++ [46]) x).1 + ((rg (w ++ [46]) x).2 - 1 - (rg (w ++ [46]) x).1) = (rg (w ++ [46]) x).2 - 1 by omega]
  exact List.getElem?_eq_getElem (by rw [List.length_map]; omega)
/-- a part that stands nowhere has an empty range -/
theorem stands_none {w x : List Nat} (hx : x ≠ []) (hx' : ∀ c ∈ x, 46 < c) (h : stands w x = []) : ¬ (rg (w ++ [46]) x).1 < (rg (w ++ [46]) x).2 := by
  intro hne
  have := last_stands hx hx' hne
  rw [h] at this
  cases this
theorem stands_some {w x : List Nat} (hx : x ≠ []) (hx' : ∀ c ∈ x, 46 < c) (h : stands w x ≠ []) : (rg (w ++ [46]) x).1 < (rg (w ++ [46]) x).2 := by
  by_cases hne : (rg (w ++ [46]) x).1 < (rg (w ++ [46]) x).2
  · exact hne
  · exfalso
    apply h
    rw [← places_are w x hx hx', show (rg (w ++ [46]) x).2 - (rg (w ++ [46]) x).1 = 0 by omega, List.take_zero]
    rfl
/-- where a part stands, places below n alone -/
theorem stands_n {w x : List Nat} (hx : x ≠ []) : ((List.range w.length).filter fun i => (w.drop i).take x.length == x) = stands w x := by
  have hk : 0 < x.length := List.length_pos_iff.mpr hx
  unfold stands
  by_cases hl : x.length ≤ w.length
  · have := range_filter (p := fun i => (w.drop i).take x.length == x) (q := fun i => (w.drop i).take x.length == x) (a := w.length + 1 - x.length) (fun i _ => rfl) (x.length - 1) (fun i h1 h2 => by
      rw [beq_eq_false_iff_ne]
      intro e
      have := congrArg List.length e
      rw [List.length_take, List.length_drop] at this
      omega)
    rw [show w.length + 1 - x.length + (x.length - 1) = w.length by omega] at this
    exact this
  · rw [show w.length + 1 - x.length = 0 by omega]
    rw [List.filter_eq_nil_iff.mpr]
    · rfl
    · intro i hi
      simp only [beq_iff_eq]
      intro e
      have := congrArg List.length e
      rw [List.length_take, List.length_drop] at this
      omega
end B
end

section
set_option Elab.async false
set_option linter.all false
set_option maxRecDepth 100000
set_option maxHeartbeats 1000000
/-! What the functions of k84 compute. -/
namespace G
open PySem Ev B
theorem sp6 (n : Nat) (L : List Nat) (c : Nat) (hL : L.length ≤ 5000) : clN tab (n + 1) 6 [(.f, str L), (.f, str [c])] = .ok ((.f, .int (L.countP (· < c))), []) := by
  rw [clN_run (rfl : tab 6 = some ⟨2, 3, [], noEx c6⟩)]
  have h := lc_step (cl := clN tab n) (e := [some (.f, str L), some (.f, str [c]), none]) (as := [.n 0]) (f := itV) (tg := .n 2) (own := [2]) (t := ctB (cOp fLt [.n 2, .n 1])) (c := cVar 2) L (fun c => str [c]) (fun a => decide (a < c)) (fun a => str [a]) (by simp) (by simp; rfl) (by omega) (by simp) (fun a ha => by simp [lcStep]; split <;> simp)
  simp [c6, h, List.countP_eq_length_filter]
theorem sp10 (n : Nat) (L : List Nat) (c : Nat) (hL : L.length ≤ 5000) : clN tab (n + 1) 10 [(.f, str L), (.f, str [c])] = .ok ((.f, .tuple ((List.range (L.length + 1)).map fun (i : Nat) => PyData.int ((L.take i).count c : Nat))), []) := by
  rw [clN_run (rfl : tab 10 = some ⟨2, 3, [], noEx c10⟩)]
  have hL' : L.length ≤ 16777216 := by omega
  have e1 : ((L.length : Int) + 1) = ((L.length + 1 : Nat) : Int) := by omega
  have h := lc_all (cl := clN tab n) (e := [some (.f, str L), some (.f, str [c]), none]) (as := [.v (cOp fAdd [.v (cOp fLen [.n 0]), .v (cK (.int 1))])]) (f := itR1) (tg := .n 2) (own := [2]) (c := cMeth isStr fCount (.v (cOp fSlB [.n 0, .v (cInt (cVar 2))])) [.n 1]) (List.range (L.length + 1)) (fun i => PyData.int (i : Int)) (fun (i : Nat) => PyData.int ((L.take i).count c : Nat))
    (it_v (ow := .f) (d := .int ((L.length : Int) + 1)) (by simp [o_len hL']) (by rw [e1]; exact i_R1 (by omega))) (by simp; rfl) (by simp; omega) (by simp) (fun a ha => by simp [lcStep, o_slB hL', isStr])
  simp [c10, h]
def prD (p : Nat × Nat) : PyData := .tuple [.int (p.1 : Int), .int (p.2 : Int)]
theorem sp7 (n : Nat) (L x : List Nat) (hL : L.length ≤ 5000) (hx : x.length ≤ 5000) : clN tab (n + 2) 7 [(.f, str L), (.f, str x)] = .ok ((.f, .tuple ((lk L x.reverse (0, L.length)).map prD)), []) := by
  rw [clN_run (rfl : tab 7 = some ⟨2, 7, [], noEx c7⟩)]
  have hL' : L.length ≤ 16777216 := by omega
  have hx' : x.length ≤ 16777216 := by omega
  have hf : ∀ (r : List Nat) (acc : List PyData) (p : Nat × Nat) (z z' : Option Vl), acc.length + r.length ≤ 5001 → (∃ w w', z = w ∧ (z = none ∨ ∃ d, z = some (.f, d)) ∧ z' = w' ∧ (z' = none ∨ ∃ d, z' = some (.f, d))) → ∃ (y y' : Option Vl) (p' : Nat × Nat), forL (.n 5) (cSq (cAsg 6 (cCall 6 [] [.v (cVar 0), .v (cVar 5)]))
  (cSq (cPar [2, 3] [(cOp fAdd [.n 6, .v (cMeth isStr fCount (.v (cOp fSlB [.n 0, .v (cInt (cVar 2))])) [.n 5])]), (cOp fAdd [.n 6, .v (cMeth isStr fCount (.v (cOp fSlB [.n 0, .v (cInt (cVar 3))])) [.n 5])])])
  (cDo (cMut muApp 4 [.v (cTup [(cVar 2), (cVar 3)])])))) (clN tab (n + 1)) (r.map fun c => str [c]) [some (.f, str L), some (.f, str x), some (.f, .int (p.1 : Nat)), some (.f, .int (p.2 : Nat)), some (.o, .list (acc ++ [prD p])), z, z'] =
      .ok ([some (.f, str L), some (.f, str x), some (.f, .int (p'.1 : Nat)), some (.f, .int (p'.2 : Nat)), some (.o, .list (acc ++ (lk L r p).map prD)), y, y'], .nx) := by
    intro r
    induction r with
    | nil => intro acc p z z' _ _; exact ⟨z, z', p, rfl⟩
    | cons c r ih =>
      intro acc p z z' hl hz
      obtain ⟨y, y', p', h⟩ := ih (acc ++ [prD p]) (lkStep L c p) (some (.f, str [c])) (some (.f, .int (L.countP (· < c) : Nat))) (by simp at hl ⊢; omega) ⟨_, _, rfl, .inr ⟨_, rfl⟩, rfl, .inr ⟨_, rfl⟩⟩
      refine ⟨y, y', p', ?_⟩
      rw [List.map_cons, forL]
      have e5 : (((L.countP (· < c) : Nat) : Int) + ((L.take p.1).count c : Nat)) = ((lkStep L c p).1 : Nat) := by unfold lkStep; simp
      have e6 : (((L.countP (· < c) : Nat) : Int) + ((L.take p.2).count c : Nat)) = ((lkStep L c p).2 : Nat) := by unfold lkStep; simp
      have hl2 : acc.length + 1 < 16777216 := by simp at hl; omega
      obtain ⟨_, _, _, rfl | ⟨d, rfl⟩, _, rfl | ⟨d', rfl⟩⟩ := hz <;> simp [sp6 n L c hL, o_slB hL', isStr, e5, e6, hl2] <;> simpa [lk, prD] using h
  obtain ⟨y, y', p', h⟩ := hf x.reverse [] (0, L.length) none none (by simp; omega) ⟨_, _, rfl, .inl rfl, rfl, .inl rfl⟩
  simp [c7, cFor, o_len hL', o_rev hx']
  simp [prD] at h ⊢
  simp [h]
end G
end

section
set_option Elab.async false
set_option linter.all false
set_option maxRecDepth 100000
set_option maxHeartbeats 1000000
/-! Sorting in the program and in plain Lean. -/
namespace G
open PySem Ev B
theorem ins_eq (a : PyData) : ∀ l : List PyData, insD a l = ins leD a l
  | [] => rfl
  | b :: r => by rw [insD, ins, ins_eq a r]
theorem sort_eq : ∀ l : List PyData, sortD l = srt leD l
  | [] => rfl
  | a :: l => by rw [sortD, srt, sort_eq l, ins_eq]
theorem leD_str (a b : List Nat) : leD (str a) (str b) = leL a b := by
  have := congrFun (congrFun (PySem.W.dataLe_str (β := List Nat) (fun l => ⟨l.toArray⟩)) a) b
  exact this
theorem leD_pair (a b : List Nat) (i j : Int) : leD (.tuple [str a, .int i]) (.tuple [str b, .int j]) = if b = a then decide (i ≤ j) else leL a b := by
  show (!PySem.W.dataLt (.tuple [str b, .int j]) (.tuple [str a, .int i])) = _
  rw [PySem.W.dataLt_pair (by rfl) (by rfl), PySem.W.dataLt_int, PySem.W.dataLt_str]
  have e1 : PyData.eqv (str b) (str a) = decide (b = a) := by
    simp [PyData.eqv]
    rw [Bool.eq_iff_iff]
    simp
  have e2 : PyData.eqv (.int j) (.int i) = decide (j = i) := by
    simp [PyData.eqv]
    rw [Bool.eq_iff_iff]
    simp
  rw [e1, e2]
  by_cases h : b = a
  · simp only [h, decide_true, if_true]
    by_cases h2 : j = i
    · simp [h2]
    · simp only [h2, decide_false, Bool.false_eq_true, if_false]
      rw [Bool.eq_iff_iff]
      simp
  · simp only [h, decide_false, Bool.false_eq_true, if_false]
    unfold leL
    rw [Bool.eq_iff_iff]
    simp
/-- a tail and its place -/
def pl (s t : List Nat) : PyData := .tuple [str t, .int ((s.length - t.length : Nat) : Int)]
theorem sort_pl (s : List Nat) : sortD ((tails s).map (pl s)) = (T s).map (pl s) := by
  rw [sort_eq]
  refine srt_map (pl s) (fun a b => ?_) _
  unfold pl
  rw [leD_pair]
  by_cases h : b = a
  · subst h
    simp [leL]
  · rw [if_neg h]
theorem sort_str (l : List (List Nat)) : sortD (l.map str) = (srt leL l).map str := by
  rw [sort_eq]
  exact srt_map str leD_str _
theorem o_sort {ds : List PyData} (h1 : ∀ d ∈ ds, ∀ d' ∈ ds, PySem.W.alike d d' = true) (h2 : (∀ d ∈ ds, isTup1 d = true) ∨ (∀ d ∈ ds, isOth d = true)) (h3 : ds.length ≤ 16777216) (h4 : ∀ d ∈ ds, d.depth ≤ 60) : fSorted [.list ds] = some (.o, .list (sortD ds)) := by
  show gSortL ds = _
  unfold gSortL
  rw [if_pos]
  refine ⟨?_, ?_, by simpa [sizeLine] using h3, ?_⟩
  · unfold alikeB
    exact List.all_eq_true.mpr fun d hd => List.all_eq_true.mpr fun d' hd' => h1 d hd d' hd'
  · unfold sortB
    rw [Bool.or_eq_true, List.all_eq_true, List.all_eq_true]
    exact h2
  · exact List.all_eq_true.mpr fun d hd => decide_eq_true (h4 d hd)
end G
end

section
set_option Elab.async false
set_option linter.all false
set_option maxRecDepth 100000
set_option maxHeartbeats 1000000
namespace G
open PySem Ev B
theorem sp0 (n : Nat) (w : List Nat) (hw : w.length ≤ 5000) : clN tab (n + 1) 0 [(.f, str w)] = .ok ((.f, .tuple ((T (w ++ [46])).map fun t => PyData.int (((w ++ [46]).length - t.length : Nat) : Int))), []) := by
  rw [clN_run (rfl : tab 0 = some ⟨1, 4, [], noEx c0⟩)]
  have hs : (w ++ [46]).length ≤ 16777216 := by simp; omega
  have hn : (w ++ [46]).length ≤ 5001 := by simp; omega
  have ha : fAdd [str w, str [46]] = some (.f, str (w ++ [46])) := o_addS (by simp; omega)
  have h1 := lc_all (cl := clN tab n) (e := [some (.f, str w), some (.f, str (w ++ [46])), none, none]) (as := [.v (cOp fLen [.n 1])]) (f := itR1) (tg := .n 3) (own := [3]) (c := cTup [(cOp fSlA [.n 1, .v (cInt (cVar 3))]), (cVar 3)]) (List.range (w ++ [46]).length) (fun i => PyData.int (i : Int)) (fun (i : Nat) => PyData.tuple [str ((w ++ [46]).drop i), .int (i : Int)])
    (it_v (ow := .f) (d := .int ((w ++ [46]).length : Int)) (by simp only [s_op, s_arn, s_gt0, s_gtS, s_bind, s_ar0, s_adn, s_ad0, Option.map_some, s_opRes, o_len hs]) (by rw [i_R1 hs])) (by rw [s_lkv, s_lk0]) (by rw [List.length_range]; omega) (by simp) (fun a ha => by simp [lcStep, o_slA hs])
  have e1 : (List.range (w ++ [46]).length).map (fun (i : Nat) => PyData.tuple [str ((w ++ [46]).drop i), .int (i : Int)]) = (tails (w ++ [46])).map (pl (w ++ [46])) := by
    rw [tails_map, List.map_map]
    refine List.map_congr_left fun i hi => ?_
    have := List.mem_range.mp hi
    show _ = PyData.tuple [str ((w ++ [46]).drop i), .int (((w ++ [46]).length - ((w ++ [46]).drop i).length : Nat) : Int)]
    rw [List.length_drop, Nat.sub_sub_self (Nat.le_of_lt this)]
  rw [e1] at h1
  have h2 : fSorted [.list ((tails (w ++ [46])).map (pl (w ++ [46])))] = some (.o, .list ((T (w ++ [46])).map (pl (w ++ [46])))) := by
    rw [o_sort, sort_pl]
    · intro d hd d' hd'
      obtain ⟨t, _, rfl⟩ := List.mem_map.mp hd
      obtain ⟨t', _, rfl⟩ := List.mem_map.mp hd'
      rfl
    · refine .inl fun d hd => ?_
      obtain ⟨t, _, rfl⟩ := List.mem_map.mp hd
      rfl
    · rw [List.length_map, tails_map, List.length_map, List.length_range]; exact hs
    · intro d hd
      obtain ⟨t, _, rfl⟩ := List.mem_map.mp hd
      simp [pl, PyData.depth, PyData.depthAll]
  have h3 := lc_all (cl := clN tab n) (e := [some (.f, str w), some (.f, str (w ++ [46])), none, none]) (as := [.v (cOp fSorted [.v (cLC ⟨[.v (cOp fLen [.n 1])], itR1⟩ (.n 3) [3] ctYes (cTup [(cOp fSlA [.n 1, .v (cInt (cVar 3))]), (cVar 3)]))])]) (f := itV) (tg := .t [(.n 2), (.n 3)]) (own := [2, 3]) (c := cVar 3) (T (w ++ [46])) (pl (w ++ [46])) (fun t => PyData.int (((w ++ [46]).length - t.length : Nat) : Int))
    (it_v (ow := .o) (d := .list ((T (w ++ [46])).map (pl (w ++ [46])))) (by simp only [s_op, s_arv, s_bind, s_ar0, s_adv, s_ad0, Option.map_some, s_opRes, h1, h2]) i_listV) (by rw [s_lkv, s_lk0]) (by rw [T_len]; exact hs) (by simp) (fun a ha => by simp [lcStep, pl])
  have hd : PyData.str "." = str [46] := rfl
  simp [c0, hd, ha]
  rw [h3]
  simp
end G
end

section
set_option Elab.async false
set_option linter.all false
set_option maxRecDepth 100000
set_option maxHeartbeats 1000000
namespace G
open PySem Ev B
theorem at_bf {w t : List Nat} (h : t ∈ T (w ++ [46])) : L2.atI (w ++ [46]) ((((w ++ [46]).length - t.length : Nat) : Int) - 1) = some (bf (w ++ [46]) t) := by
  obtain ⟨j, hj, rfl⟩ := T_mem.mp h
  have hn : (w ++ [46]).length = w.length + 1 := by simp
  have e : ((w ++ [46]).drop j).length = w.length + 1 - j := by rw [List.length_drop, hn]
  unfold bf
  rw [e, hn, Nat.sub_sub_self (by omega)]
  cases j with
  | zero =>
    rw [if_pos (by omega), show ((0 : Nat) : Int) - 1 = -1 from rfl, atI_m1]
    simp
  | succ k =>
    rw [if_neg (by omega), show ((k + 1 : Nat) : Int) - 1 = (k : Nat) by omega, atI_nat, show k + 1 - 1 = k from rfl, List.getD_eq_getElem?_getD, List.getElem?_eq_getElem (by rw [hn]; omega)]
    rfl
theorem La_lt {w : List Nat} (hw : ∀ c ∈ w, c < 0x110000) : ∀ x ∈ La (w ++ [46]), x < 0x110000 := by
  intro x hx
  obtain ⟨t, ht, rfl⟩ := List.mem_map.mp hx
  have h := at_bf ht
  have := atI_mem h
  rcases List.mem_append.mp this with h | h
  · exact hw _ h
  · simp at h; omega
theorem sp1 (n : Nat) (w : List Nat) (hw : w.length ≤ 5000) (hc : ∀ c ∈ w, c < 0x110000) : clN tab (n + 2) 1 [(.f, str w)] = .ok ((.f, str (La (w ++ [46]))), []) := by
  rw [clN_run (rfl : tab 1 = some ⟨1, 3, [], noEx c1⟩)]
  have hs : (w ++ [46]).length ≤ 16777216 := by simp; omega
  have hd : PyData.str "." = str [46] := rfl
  have hd0 : PyData.str "" = str [] := rfl
  have ha : fAdd [str w, str [46]] = some (.f, str (w ++ [46])) := o_addS (by simp; omega)
  have hj : fJoin [str [], .list ((T (w ++ [46])).map fun t => str [bf (w ++ [46]) t])] = some (.f, str (La (w ++ [46]))) := by
    have := o_join (ls := La (w ++ [46])) (by rw [La_len]; exact hs) (La_lt hc)
    rw [show (La (w ++ [46])).map (fun c => str [c]) = (T (w ++ [46])).map fun t => str [bf (w ++ [46]) t] by rw [La, List.map_map]; rfl] at this
    exact this
  have h3 := lc_all (cl := clN tab (n + 1)) (e := [some (.f, str w), some (.f, str (w ++ [46])), none]) (as := [.v (cCall 0 [] [.v (cVar 0)])]) (f := itV) (tg := .n 2) (own := [2]) (c := cOp fIx [.n 1, .v (cOp fSub [.n 2, .v (cK (.int 1))])]) (T (w ++ [46])) (fun t => PyData.int (((w ++ [46]).length - t.length : Nat) : Int)) (fun t => str [bf (w ++ [46]) t])
    (it_v (ow := .f) (d := .tuple ((T (w ++ [46])).map fun t => PyData.int (((w ++ [46]).length - t.length : Nat) : Int))) (by simp [sp0 n w hw]) i_tupV) (by rw [s_lkv, s_lk0]) (by rw [T_len]; exact hs) (by simp) (fun t ht => by
      have h1 := at_bf ht
      have h2 := o_ixS (l := w ++ [46]) (i := (((w ++ [46]).length - t.length : Nat) : Int) - 1) hs
      rw [h1] at h2
      generalize (((w ++ [46]).length - t.length : Nat) : Int) = z at *
      simp [lcStep, h2])
  simp [c1, hd, hd0, ha, isStr]
  rw [h3]
  simp [hj]
end G
end

section
set_option Elab.async false
set_option linter.all false
set_option maxRecDepth 100000
set_option maxHeartbeats 1000000
namespace G
open PySem Ev B
/-- a sign and its place -/
def sgP (p : Nat × Nat) : PyData := .tuple [str [p.1], .int (p.2 : Int)]
theorem sort_sgP (l : List (Nat × Nat)) : sortD (l.map sgP) = (srt leP l).map sgP := by
  rw [sort_eq]
  refine srt_map sgP (fun a b => ?_) l
  unfold sgP
  rw [leD_pair, Bool.eq_iff_iff, leP_iff]
  by_cases h : b.1 = a.1
  · simp [h]
  · have h' : ¬ a.1 = b.1 := fun e => h e.symm
    simp [h, h', leL, List.cons_le_cons_iff]
/-- whole numbers as a datum's items -/
def nums (l : List Nat) : List PyData := l.map fun (i : Nat) => PyData.int (i : Int)
theorem nums_set (l : List Nat) (k v : Nat) : (nums l).set k (.int (v : Int)) = nums (l.set k v) := by
  unfold nums
  rw [List.map_set]
@[simp] theorem nums_len (l : List Nat) : (nums l).length = l.length := List.length_map ..
theorem nums_get (l : List Nat) (k : Nat) : (nums l)[k]? = l[k]?.map fun (i : Nat) => PyData.int (i : Int) := List.getElem?_map ..
theorem nums_app (l l' : List Nat) : nums (l ++ l') = nums l ++ nums l' := List.map_append ..
theorem nums_last (l : List Nat) : (nums l).getLast? = l.getLast?.map fun (i : Nat) => PyData.int (i : Int) := List.getLast?_map ..
theorem nums_map {α : Type} (l : List α) (f : α → Nat) : nums (l.map f) = l.map fun a => PyData.int (f a : Int) := List.map_map ..
theorem sp2 (n : Nat) (L : List Nat) (hL : L.length ≤ 5001) : clN tab (n + 1) 2 [(.f, str L)] = .ok ((.f, .tuple (nums ((List.range L.length).map (stp L)))), []) := by
  rw [clN_run (rfl : tab 2 = some ⟨1, 5, [], noEx c2⟩)]
  have hs : L.length ≤ 16777216 := by omega
  have hm := o_repL (d := .int 0) hs
  have h1 := lc_all (cl := clN tab n) (e := [some (.f, str L), some (.o, .list (List.replicate L.length (.int 0))), none, none, none]) (as := [.n 0]) (f := itE) (tg := .t [(.n 4), (.n 3)]) (own := [4, 3]) (c := cTup [(cVar 3), (cVar 4)]) L.zipIdx (fun p => PyData.tuple [.int (p.2 : Int), str [p.1]]) sgP
    (it_n (x := (.f, str L)) rfl (by simp) (by rw [i_ES, enum_map])) (by simp; rfl) (by simpa using hs) (by simp) (fun a ha => by simp [lcStep, sgP])
  have h2 : fSorted [.list (L.zipIdx.map sgP)] = some (.o, .list ((SP L).map sgP)) := by
    rw [o_sort, sort_sgP]
    · rfl
    · intro d hd d' hd'
      obtain ⟨t, _, rfl⟩ := List.mem_map.mp hd
      obtain ⟨t', _, rfl⟩ := List.mem_map.mp hd'
      rfl
    · refine .inl fun d hd => ?_
      obtain ⟨t, _, rfl⟩ := List.mem_map.mp hd
      rfl
    · simpa using hs
    · intro d hd
      obtain ⟨t, _, rfl⟩ := List.mem_map.mp hd
      simp [sgP, PyData.depth, PyData.depthAll]
  have hf : ∀ (r : List ((Nat × Nat) × Nat)) (fl : List Nat) (z2 z3 z4 : Option Vl), nl z2 = true → nl z3 = true → nl z4 = true → (∀ q ∈ r, q.1.2 < fl.length) → ∃ y2 y3 y4, forL (.t [(.n 2), (.t [(.n 3), (.n 4)])]) (cSet seL 1 (.n 4) (cVar 2)) (clN tab n) (r.map fun q => PyData.tuple [.int (q.2 : Int), sgP q.1]) [some (.f, str L), some (.o, .list (nums fl)), z2, z3, z4] =
      .ok ([some (.f, str L), some (.o, .list (nums (wr fl r))), y2, y3, y4], .nx) := by
    intro r
    induction r with
    | nil => intro fl z2 z3 z4 _ _ _ _; exact ⟨z2, z3, z4, rfl⟩
    | cons q r ih =>
      intro fl z2 z3 z4 h2 h3 h4 hq
      obtain ⟨y2, y3, y4, h⟩ := ih (fl.set q.1.2 q.2) (some (.f, .int (q.2 : Int))) (some (.f, str [q.1.1])) (some (.f, .int (q.1.2 : Int))) rfl rfl rfl (fun p hp => by rw [List.length_set]; exact hq p (List.mem_cons_of_mem _ hp))
      refine ⟨y2, y3, y4, ?_⟩
      have hk : q.1.2 < (nums fl).length := by simpa using hq q (List.mem_cons_self ..)
      have hse := o_seL (v := .int (q.2 : Int)) hk
      rw [nums_set] at hse
      rw [List.map_cons, forL]
      simp [h2, h3, h4, sgP, hse]
      simpa [wr, sgP] using h
  obtain ⟨y2, y3, y4, h4⟩ := hf (SP L).zipIdx (List.replicate L.length 0) none none none rfl rfl rfl (fun q hq => by
    obtain ⟨q1, q2⟩ := q
    rw [List.mk_mem_zipIdx_iff_getElem?] at hq
    have := zip_mem.mp ((SP_perm L).mem_iff.mp (List.mem_of_getElem? hq))
    rw [List.length_replicate]
    exact (List.getElem?_eq_some_iff.mp this).1)
  have er : nums (List.replicate L.length 0) = List.replicate L.length (.int 0) := List.map_replicate ..
  rw [steps_are, er] at h4
  have hF := for_v (cl := clN tab n) (c := cOp fSorted [.v (cLC ⟨[.n 0], itE⟩ (.t [(.n 4), (.n 3)]) [4, 3] ctYes (cTup [(cVar 3), (cVar 4)]))]) (f := itE) (tg := .t [(.n 2), (.t [(.n 3), (.n 4)])]) (body := cSet seL 1 (.n 4) (cVar 2))
    (it_v (e := [some (.f, str L), some (.o, .list (List.replicate L.length (.int 0))), none, none, none]) (ow := .o) (d := .list ((SP L).map sgP)) (by simp only [s_op, s_arv, s_bind, s_ar0, s_adv, s_ad0, Option.map_some, s_opRes, h1, h2]) (by rw [i_EL, enum_map])) h4
  simp only [c2, s_sq, s_asg, s_op, s_arv, s_lst, s_esS, s_es0, s_cK, s_bind, s_ar0, s_arn]
  simp [o_len hs, hm, hF]
theorem sp3 (n : Nat) (S : List Nat) (r : Nat → Nat) (m : Nat) (hlt : ∀ k, k ≤ m → r k < S.length) (hn : ∀ k, k < m → S.getD (r k) 0 = r (k + 1)) (hne : ∀ k, k < m → r (k + 1) ≠ r 0) (hl : S.getD (r m) 0 = r 0) (hm : m < S.length) (hS : S.length ≤ 5001) :
    clN tab (n + 1) 3 [(.f, .tuple (nums S)), (.f, .int (r 0 : Nat))] = .ok ((.f, .tuple (nums ((List.range (m + 1)).map r))), []) := by
  have hs : S.length ≤ 16777216 := by omega
  have lst : ∀ k, (nums ((List.range (k + 1)).map r)).getLast? = some (.int (r k : Nat)) := by
    intro k
    rw [nums_last, List.range_succ]
    simp
  have at' : ∀ k, k ≤ m → (nums S)[r k]? = some (.int (S.getD (r k) 0 : Nat)) := by
    intro k hk
    rw [nums_get, List.getD_eq_getElem?_getD, List.getElem?_eq_getElem (hlt k hk)]
    rfl
  have hf : ∀ (ys : List PyData) (k : Nat) (z : Option Vl), k ≤ m → m - k < ys.length → nl z = true → ∃ y, forL (.n 3) (cSq (cIf (ctB (cOp (fEqM false) [.v (cOp fIx [.n 0, .v (cOp fIx [.n 2, .v (cOp fNeg [.v (cK (.int 1))])])]), .n 1])) cBk cNx)
  (cDo (cMut muApp 2 [.v (cOp fIx [.n 0, .v (cOp fIx [.n 2, .v (cOp fNeg [.v (cK (.int 1))])])])]))) (clN tab n) ys [some (.f, .tuple (nums S)), some (.f, .int (r 0 : Nat)), some (.o, .list (nums ((List.range (k + 1)).map r))), z] = .ok ([some (.f, .tuple (nums S)), some (.f, .int (r 0 : Nat)), some (.o, .list (nums ((List.range (m + 1)).map r))), y], .nx) := by
    intro ys
    induction ys with
    | nil => intro k z _ h _; simp at h
    | cons d ys ih =>
      intro k z hk hy hz
      have l1 := lst k
      have a1 := at' k hk
      by_cases he : k = m
      · subst he
        refine ⟨some (.f, d), ?_⟩
        rw [hl] at a1
        rw [forL]
        generalize nums ((List.range (k + 1)).map r) = F at *
        generalize nums S = S' at *
        simp [hz, atI_m1, l1, atI_nat, a1, o_eqI]
      · have hk2 : k < m := by omega
        rw [hn k hk2] at a1
        obtain ⟨y, h⟩ := ih (k + 1) (some (.f, d)) (by omega) (by simp at hy; omega) rfl
        refine ⟨y, ?_⟩
        have ea : nums ((List.range (k + 1)).map r) ++ [PyData.int (r (k + 1) : Nat)] = nums ((List.range (k + 1 + 1)).map r) := by
          rw [List.range_succ (n := k + 1), List.map_append, nums_app]
          rfl
        have d1 : decide ((r (k + 1) : Int) = (r 0 : Int)) = false := by
          have := hne k hk2
          simp
          omega
        have hlen : (nums ((List.range (k + 1)).map r)).length < 16777216 := by simp; omega
        rw [forL]
        rw [← ea] at h
        generalize nums ((List.range (k + 1)).map r) = F at *
        generalize nums S = S' at *
        simp [hz, atI_m1, l1, atI_nat, a1, o_eqI, d1, hlen]
        exact h
  obtain ⟨y, h⟩ := hf (nums (List.range S.length)) 0 none (by omega) (by simp; omega) rfl
  have e0 : nums ((List.range (0 + 1)).map r) = [.int (r 0 : Nat)] := rfl
  rw [e0] at h
  have hF := for_v (cl := clN tab n) (c := cOp fLen [.n 0]) (f := itR1) (it_v (e := [some (.f, .tuple (nums S)), some (.f, .int (r 0 : Nat)), some (.o, .list [.int (r 0 : Nat)]), none]) (ow := .f) (d := .int (S.length : Int)) (by simp) (by rw [i_R1 hs]; exact rfl)) h
  have hb : c3 (clN tab n) [some (.f, .tuple (nums S)), some (.f, .int (r 0 : Nat)), none, none] = .ok ([some (.f, .tuple (nums S)), some (.f, .int (r 0 : Nat)), some (.o, .list (nums ((List.range (m + 1)).map r))), y], .rt (.f, .tuple (nums ((List.range (m + 1)).map r)))) := by
    generalize clN tab n = cl at *
    simp [c3, -s_itRun]
    rw [hF]
    simp
  exact clN_ret (rfl : tab 3 = some ⟨2, 4, [], noEx c3⟩) rfl hb rfl
theorem sp4 (n : Nat) (w : List Nat) (hw : ∀ c ∈ w, 46 < c) (hl : w.length ≤ 5000) : clN tab (n + 2) 4 [(.f, str (La (w ++ [46])))] = .ok ((.f, .tuple (nums ((List.range (w.length + 1)).map (row w)))), []) := by
  have hll : (La (w ++ [46])).length = w.length + 1 := by rw [La_len]; simp
  have e3 := sp2 n (La (w ++ [46])) (by rw [hll]; omega)
  have gd : ∀ k, ((List.range (La (w ++ [46])).length).map (stp (La (w ++ [46])))).getD (row w k) 0 = stp (La (w ++ [46])) (row w k) := by
    intro k
    have := row_lt w k
    rw [List.getD_eq_getElem?_getD, List.getElem?_map, List.getElem?_range (by rw [hll]; exact this)]
    rfl
  have e4 := sp3 n ((List.range (La (w ++ [46])).length).map (stp (La (w ++ [46])))) (row w) w.length
    (fun k _ => by rw [List.length_map, List.length_range, hll]; exact row_lt w k) (fun k hk => by rw [gd, row_next hw hk]) (fun k hk => by rw [row_zero hw]; exact row_pos hw hk) (by rw [gd, row_last hw, row_zero hw]) (by rw [List.length_map, List.length_range, hll]; omega) (by rw [List.length_map, List.length_range, hll]; omega)
  rw [row_zero hw] at e4
  rw [show ((0 : Nat) : Int) = 0 from rfl] at e4
  have hb : c4 (clN tab (n + 1)) [some (.f, str (La (w ++ [46])))] = .ok ([some (.f, str (La (w ++ [46])))], .rt (.f, .tuple (nums ((List.range (w.length + 1)).map (row w))))) := by
    generalize nums ((List.range (La (w ++ [46])).length).map (stp (La (w ++ [46])))) = M at *
    generalize clN tab (n + 1) = cl at *
    generalize La (w ++ [46]) = P at *
    simp [c4, e3, e4]
  exact clN_ret (rfl : tab 4 = some ⟨1, 1, [], noEx c4⟩) rfl hb rfl
theorem sp5 (n : Nat) (w : List Nat) (hw : ∀ c ∈ w, 46 < c ∧ c < 0x110000) (hl : w.length ≤ 5000) : clN tab (n + 3) 5 [(.f, str (La (w ++ [46])))] = .ok ((.f, str w), []) := by
  rw [clN_run (rfl : tab 5 = some ⟨1, 2, [], noEx c5⟩)]
  have hll : (La (w ++ [46])).length = w.length + 1 := by rw [La_len]; simp
  have hls : (La (w ++ [46])).length ≤ 16777216 := by omega
  have e5 := sp4 n w (fun c hc => (hw c hc).1) hl
  have h1 := lc_all (cl := clN tab (n + 2)) (e := [some (.f, str (La (w ++ [46]))), none]) (as := [.v (cCall 4 [] [.v (cVar 0)])]) (f := itV) (tg := .n 1) (own := [1]) (c := cOp fIx [.n 0, .n 1]) (List.range (w.length + 1)) (fun k => PyData.int (row w k : Nat)) (fun k => str [(La (w ++ [46])).getD (row w k) 0])
    (it_v (ow := .f) (d := .tuple (nums ((List.range (w.length + 1)).map (row w)))) (by simp [e5]) (by rw [i_tupV, nums_map])) (by rw [s_lkv, s_lk0]) (by rw [List.length_range]; omega) (by simp) (fun k hk => by
      have h2 := o_ixS (i := (row w k : Int)) hls
      have h3 : (La (w ++ [46]))[row w k]? = some ((La (w ++ [46])).getD (row w k) 0) := by
        rw [List.getD_eq_getElem?_getD, List.getElem?_eq_getElem (by rw [hll]; exact row_lt w k)]
        rfl
      rw [atI_nat, h3] at h2
      generalize (La (w ++ [46])).getD (row w k) 0 = y at *
      generalize row w k = z at *
      simp [lcStep, h2])
  have e2 : (List.range (w.length + 1)).map (fun k => str [(La (w ++ [46])).getD (row w k) 0]) = (w.reverse ++ [46]).map fun c => str [c] := by
    rw [← La_rows, List.map_map]
    rfl
  rw [e2] at h1
  have hlt : ∀ x ∈ w.reverse ++ [46], x < 0x110000 := by
    intro x hx
    rcases List.mem_append.mp hx with h | h
    · exact (hw x (List.mem_reverse.mp h)).2
    · simp at h; omega
  have hj := o_join (ls := w.reverse ++ [46]) (by simp; omega) hlt
  have hr := o_rev (l := w.reverse ++ [46]) (by simp; omega)
  have hp := o_repl (c := 46) (l := (w.reverse ++ [46]).reverse) (by simp; omega) (fun x hx => hlt x (List.mem_reverse.mp hx))
  have ef : ((w.reverse ++ [46]).reverse).filter (· != 46) = w := by
    rw [List.reverse_append, List.reverse_reverse]
    show ((46 : Nat) :: w).filter (· != 46) = w
    rw [List.filter_cons_of_neg (by simp), List.filter_eq_self]
    intro c hc
    have := (hw c hc).1
    simp
    omega
  rw [ef] at hp
  have hd0 : PyData.str "" = str [] := rfl
  have hfr : fReplC "." "" = fReplC ⟨#[46]⟩ ⟨#[]⟩ := rfl
  simp only [c5, hfr, s_ret, s_op, s_arv, s_meth, hd0, s_cK, s_bind, isStr, s_ar0, s_adv, s_ad0, Option.map_some, s_opRes, List.map_cons, List.map_nil, List.cons_append, List.nil_append, List.replicate]
  generalize (w.reverse ++ [46]).map (fun c => str [c]) = M at *
  generalize (w.reverse ++ [46]).reverse = N at *
  generalize w.reverse ++ [46] = O at *
  generalize w ++ [46] = P at *
  simp [h1, hj, hr, hp]
end G
end

section
set_option Elab.async false
set_option linter.all false
set_option maxRecDepth 100000
set_option maxHeartbeats 1000000
namespace G
open PySem Ev B
/-- where the tails begin, in order -/
def atl (w : List Nat) : List Nat := (T (w ++ [46])).map fun t => (w ++ [46]).length - t.length
theorem atl_len (w : List Nat) : (atl w).length = w.length + 1 := by
  unfold atl
  rw [List.length_map, T_len]
  simp
theorem atl_mem (w : List Nat) (k : Nat) (h : k ≤ w.length) : k ∈ atl w := by
  unfold atl
  refine List.mem_map.mpr ⟨(w ++ [46]).drop k, T_mem.mpr ⟨k, by simp; omega, rfl⟩, ?_⟩
  rw [List.length_drop]
  simp
  omega
theorem sp0' (n : Nat) (w : List Nat) (hw : w.length ≤ 5000) : clN tab (n + 1) 0 [(.f, str w)] = .ok ((.f, .tuple (nums (atl w))), []) := by
  rw [sp0 n w hw, atl, nums_map]
theorem sp7' (n : Nat) (w x : List Nat) (hw : w.length ≤ 4999) (hx : x.length ≤ 5000) (hx' : ∀ c ∈ x, 46 < c) : clN tab (n + 2) 7 [(.f, str (La (w ++ [46]))), (.f, str x)] = .ok ((.f, .tuple ((rgs (w ++ [46]) x).map prD)), []) := by
  rw [sp7 n (La (w ++ [46])) x (by rw [La_len]; simp; omega) hx, lk_rgs w x hx']
theorem rgs_last (s x : List Nat) : ((rgs s x).map prD).getLast? = some (prD (rg s x)) := by
  unfold rgs
  rw [List.range_succ]
  simp
def subD (p : Nat × Nat) : PyData := .int ((p.2 : Int) - (p.1 : Int))
theorem sp8 (n : Nat) (w x : List Nat) (hw : w.length ≤ 4999) (hx : x.length ≤ 5000) (hx' : ∀ c ∈ x, 46 < c) : clN tab (n + 3) 8 [(.f, str (La (w ++ [46]))), (.f, str x)] = .ok ((.f, subD (rg (w ++ [46]) x)), []) := by
  rw [clN_go (rfl : tab 8 = some ⟨2, 4, [], noEx c8⟩) rfl]
  have h0 := sp7' n w x hw hx hx'
  have h1 := rgs_last (w ++ [46]) x
  generalize (rgs (w ++ [46]) x).map prD = M at *
  generalize rg (w ++ [46]) x = p at *
  generalize La (w ++ [46]) = L at *
  generalize clN tab (n + 2) = cl at *
  simp [c8, h0, atI_m1, h1, prD, subD]
theorem sort_nums (l : List Nat) : sortD (nums l) = nums (srt leN l) := by
  rw [sort_eq]
  refine srt_map (fun (i : Nat) => PyData.int (i : Int)) (fun a b => ?_) l
  show (!PySem.W.dataLt (.int (b : Int)) (.int (a : Int))) = _
  rw [PySem.W.dataLt_int, Bool.eq_iff_iff]
  simp [leN]
theorem o_sortN (l : List Nat) (h : l.length ≤ 16777216) : fSorted [.list (nums l)] = some (.o, .list (nums (srt leN l))) := by
  rw [o_sort, sort_nums]
  · intro d hd d' hd'
    obtain ⟨t, _, rfl⟩ := List.mem_map.mp hd
    obtain ⟨t', _, rfl⟩ := List.mem_map.mp hd'
    rfl
  · refine .inr fun d hd => ?_
    obtain ⟨t, _, rfl⟩ := List.mem_map.mp hd
    rfl
  · rw [nums_len]; exact h
  · intro d hd
    obtain ⟨t, _, rfl⟩ := List.mem_map.mp hd
    simp [PyData.depth]
end G
end

section
set_option Elab.async false
set_option linter.all false
set_option maxRecDepth 100000
set_option maxHeartbeats 1000000
namespace G
open PySem Ev B
theorem o_sortT (l : List Nat) (h : l.length ≤ 16777216) : fSorted [.tuple (nums l)] = some (.o, .list (nums (srt leN l))) := o_sortN l h
theorem nums_drop (l : List Nat) (k : Nat) : (nums l).drop k = nums (l.drop k) := (List.map_drop ..).symm
theorem nums_take (l : List Nat) (k : Nat) : (nums l).take k = nums (l.take k) := (List.map_take ..).symm
theorem sp9 (n : Nat) (w x : List Nat) (hw : w.length ≤ 4999) (hc : ∀ c ∈ w, 46 < c ∧ c < 0x110000) (hx : x.length ≤ 5000) (hx' : ∀ c ∈ x, 46 < c) (hn : x ≠ []) : clN tab (n + 4) 9 [(.f, str (La (w ++ [46]))), (.f, str x)] = .ok ((.f, .tuple (nums (stands w x))), []) := by
  rw [clN_go (rfl : tab 9 = some ⟨2, 4, [], noEx c9⟩) rfl]
  have h0 := sp7' (n + 1) w x hw hx hx'
  have h1 := rgs_last (w ++ [46]) x
  have h2 := sp5 n w hc (by omega)
  have h3 := sp0' (n + 2) w (by omega)
  have h4 := places_are w x hn hx'
  have h5 := o_sortT (((atl w).drop (rg (w ++ [46]) x).1).take ((rg (w ++ [46]) x).2 - (rg (w ++ [46]) x).1)) (by
    have := atl_len w
    rw [List.length_take, List.length_drop]
    omega)
  have h4' : srt leN (((atl w).drop (rg (w ++ [46]) x).1).take ((rg (w ++ [46]) x).2 - (rg (w ++ [46]) x).1)) = stands w x := h4
  rw [h4', ← nums_take, ← nums_drop] at h5
  clear h4 h4'
  generalize (rgs (w ++ [46]) x).map prD = M at *
  generalize rg (w ++ [46]) x = p at *
  generalize La (w ++ [46]) = L at *
  generalize nums (atl w) = A at *
  generalize clN tab (n + 3) = cl at *
  simp [c9, h0, atI_m1, h1, prD, h2, h3, h5]
/-- the highs of the ranges that are not empty -/
def ne (p : Nat × Nat) : Bool := decide (p.1 < p.2)
def ke (rs : List (Nat × Nat)) : List Nat := (rs.takeWhile ne).map (·.2)
theorem sp11 (n : Nat) (w x : List Nat) (hw : w.length ≤ 4999) (hx : x.length ≤ 5000) (hx' : ∀ c ∈ x, 46 < c) : ∃ ow, clN tab (n + 3) 11 [(.f, str (La (w ++ [46]))), (.f, str x)] = .ok ((ow, .list (nums (ke (rgs (w ++ [46]) x)))), []) := by
  rw [clN_go (rfl : tab 11 = some ⟨2, 5, [], noEx c11⟩) rfl]
  have h0 := sp7' n w x hw hx hx'
  have hl : (rgs (w ++ [46]) x).length ≤ 5001 := by
    unfold rgs
    rw [List.length_map, List.length_range]
    omega
  have hf : ∀ (cl : Cl) (a b : PyData) (r : List (Nat × Nat)) (acc : List Nat) (z z' : Option Vl), acc.length + r.length ≤ 5001 → nl z = true → nl z' = true → ∃ y y', forL (.t [(.n 3), (.n 4)]) (cSq (cIf (ctB (cOp fGe [.n 3, .n 4])) cBk cNx)
  (cDo (cMut muApp 2 [.v (cVar 4)]))) cl (r.map prD) [some (.f, a), some (.f, b), some (.o, .list (nums acc)), z, z'] = .ok ([some (.f, a), some (.f, b), some (.o, .list (nums (acc ++ ke r))), y, y'], .nx) := by
    intro cl a b r
    induction r with
    | nil => intro acc z z' _ _ _; exact ⟨z, z', by simp [ke]; rfl⟩
    | cons p r ih =>
      intro acc z z' ha hz hz'
      simp at ha
      by_cases hp : p.1 < p.2
      · obtain ⟨y, y', h⟩ := ih (acc ++ [p.2]) (some (.f, .int (p.1 : Int))) (some (.f, .int (p.2 : Int))) (by simp; omega) rfl rfl
        refine ⟨y, y', ?_⟩
        have hlt : (nums acc).length < 16777216 := by rw [nums_len]; omega
        have e1 : nums acc ++ [PyData.int (p.2 : Int)] = nums (acc ++ [p.2]) := (nums_app acc [p.2]).symm
        have e2 : acc ++ [p.2] ++ ke r = acc ++ ke (p :: r) := by
          simp [ke, ne, hp]
        have d1 : decide ((p.2 : Int) ≤ (p.1 : Int)) = false := by simp; omega
        rw [← e2, List.map_cons, forL]
        rw [← e1] at h
        generalize nums acc = F at *
        simp only [prD, s_tgt, s_taS, s_tgn, s_gt0, s_gtS, hz, hz', if_true, s_st0, s_stS, s_ta0, s_sq, s_if, s_tB, s_op, s_arn, s_ar0, s_bind, s_adn, s_ad0, Option.map_some, o_geI, d1, s_opRes, s_cNx, s_do, s_mut, s_arv, s_var, s_adv, s_muRes, o_app hlt]
        exact h
      · refine ⟨some (.f, .int (p.1 : Int)), some (.f, .int (p.2 : Int)), ?_⟩
        have d1 : decide ((p.2 : Int) ≤ (p.1 : Int)) = true := by simp; omega
        have e2 : acc ++ ke (p :: r) = acc := by
          simp [ke, ne, hp]
        rw [e2, List.map_cons, forL]
        generalize nums acc = F at *
        simp only [prD, s_tgt, s_taS, s_tgn, s_gt0, s_gtS, hz, hz', if_true, s_st0, s_stS, s_ta0, s_sq, s_if, s_tB, s_op, s_arn, s_ar0, s_bind, s_adn, s_ad0, Option.map_some, o_geI, d1, s_opRes, s_cBk]
  obtain ⟨y, y', h⟩ := hf (clN tab (n + 2)) (str (La (w ++ [46]))) (str x) (rgs (w ++ [46]) x) [] none none (by simpa using hl) rfl rfl
  have hn : nums [] = [] := rfl
  rw [List.nil_append, hn] at h
  generalize nums (ke (rgs (w ++ [46]) x)) = K at *
  generalize (rgs (w ++ [46]) x).map prD = M at *
  generalize La (w ++ [46]) = L at *
  generalize clN tab (n + 2) = cl at *
  have hF := for_v (cl := cl) (f := itV) (it_v (e := [some (.f, str L), some (.f, str x), some (.o, .list []), none, none]) (c := cCall 7 [] [.v (cVar 0), .v (cVar 1)]) (ow := .f) (d := .tuple M) (by simp [h0]) i_tupV) h
  refine ⟨.o, ?_⟩
  simp [c11, -s_itRun]
  rw [hF]
  simp
end G
end

section
set_option Elab.async false
set_option linter.all false
set_option maxRecDepth 100000
set_option maxHeartbeats 1000000
namespace G
open PySem Ev B
theorem rg_le (w x : List Nat) : (rg (w ++ [46]) x).2 ≤ w.length + 1 := by
  have h : (T (w ++ [46])).countP (lx x) ≤ (T (w ++ [46])).length := List.countP_le_length
  rw [T_len] at h
  have hn : (w ++ [46]).length = w.length + 1 := by simp
  rw [hn] at h
  exact h
theorem tw_mem {p : Nat × Nat} : ∀ {l : List (Nat × Nat)}, p ∈ l.takeWhile ne → ne p = true
  | [], h => by simp at h
  | a :: l, h => by
    by_cases ha : ne a = true
    · rw [List.takeWhile_cons_of_pos ha] at h
      rcases List.mem_cons.mp h with rfl | h
      · exact ha
      · exact tw_mem h
    · rw [List.takeWhile_cons_of_neg ha] at h
      simp at h
theorem ke_mem {w x : List Nat} {h : Nat} (hm : h ∈ ke (rgs (w ++ [46]) x)) : 0 < h ∧ h ≤ w.length + 1 := by
  obtain ⟨p, hp, rfl⟩ := List.mem_map.mp hm
  have h1 : p ∈ rgs (w ++ [46]) x := (List.takeWhile_sublist ne).subset hp
  have h2 : ne p = true := tw_mem hp
  obtain ⟨t, _, rfl⟩ := List.mem_map.mp h1
  have := rg_le w (x.drop (x.length - t))
  simp [ne] at h2
  omega
theorem ke_len (w x : List Nat) : (ke (rgs (w ++ [46]) x)).length ≤ x.length + 1 := by
  have h := (List.takeWhile_sublist ne (l := rgs (w ++ [46]) x)).length_le
  have h2 : (rgs (w ++ [46]) x).length = x.length + 1 := by
    unfold rgs
    rw [List.length_map, List.length_range]
  unfold ke
  rw [List.length_map]
  omega
/-- the places that are kept, the moves -/
def kp (w x : List Nat) : List Nat := (ke (rgs (w ++ [46]) x)).map fun h => (atl w).getD (h - 1) 0
def mv (w x : List Nat) (q : Nat × Nat) : PyData := .bool (decide ((La (w ++ [46])).getD (q.1 - 1) 0 = x.getD (x.length - 1 - q.2) 0))
def km (w x : List Nat) : List PyData := (ke (rgs (w ++ [46]) x)).dropLast.zipIdx.map (mv w x)
theorem atI_pred {α : Type} (l : List α) (d : α) (h : Nat) (h0 : 0 < h) (hl : h ≤ l.length) : L2.atI l ((h : Int) - 1) = some (l.getD (h - 1) d) := by
  rw [show (h : Int) - 1 = ((h - 1 : Nat) : Int) by omega, atI_nat, List.getD_eq_getElem?_getD, List.getElem?_eq_getElem (by omega)]
  rfl
theorem sp12 (n : Nat) (w x : List Nat) (hw : w.length ≤ 4999) (hc : ∀ c ∈ w, 46 < c ∧ c < 0x110000) (hx : x.length ≤ 5000) (hx' : ∀ c ∈ x, 46 < c) : clN tab (n + 4) 12 [(.f, str w), (.f, str x)] = .ok ((.f, .tuple (nums (kp w x))), []) := by
  rw [clN_go (rfl : tab 12 = some ⟨2, 4, [], noEx c12⟩) rfl]
  have h0 := sp0' (n + 2) w (by omega)
  have h2 := sp1 (n + 1) w (by omega) (fun c h => (hc c h).2)
  obtain ⟨ow, h12⟩ := sp11 n w x hw hx hx'
  have hkl : (ke (rgs (w ++ [46]) x)).length ≤ 16777216 := by
    have := ke_len w x
    omega
  have h1 := lc_all (cl := clN tab (n + 3)) (e := [some (.f, str w), some (.f, str x), some (.f, .tuple (nums (atl w))), none]) (as := [.v (cCall 11 [] [.v (cCall 1 [] [.v (cVar 0)]), .v (cVar 1)])]) (f := itV) (tg := .n 3) (own := [3]) (c := cOp fIx [.n 2, .v (cOp fSub [.n 3, .v (cK (.int 1))])]) (ke (rgs (w ++ [46]) x)) (fun (h : Nat) => PyData.int (h : Int)) (fun h => PyData.int ((atl w).getD (h - 1) 0 : Nat))
    (it_v (ow := ow) (d := .list (nums (ke (rgs (w ++ [46]) x)))) (by
      generalize nums (ke (rgs (w ++ [46]) x)) = K at *
      generalize La (w ++ [46]) = L at *
      generalize clN tab (n + 3) = cl at *
      simp [h2, h12]) i_listV) (by rw [s_lkv, s_lk0]) hkl (by simp) (fun h hh => by
      obtain ⟨p0, p1⟩ := ke_mem hh
      have a1 := atI_pred (nums (atl w)) (.int 0) h p0 (by rw [nums_len, atl_len]; omega)
      have a2 : (nums (atl w)).getD (h - 1) (.int 0) = .int ((atl w).getD (h - 1) 0 : Nat) := by
        rw [List.getD_eq_getElem?_getD, nums_get, List.getD_eq_getElem?_getD]
        cases (atl w)[h - 1]? <;> rfl
      rw [a2] at a1
      generalize (atl w).getD (h - 1) 0 = y at *
      generalize nums (atl w) = A at *
      simp [lcStep, a1])
  have e1 : (ke (rgs (w ++ [46]) x)).map (fun h => PyData.int ((atl w).getD (h - 1) 0 : Nat)) = nums (kp w x) := by
    rw [kp, nums_map]
  rw [e1] at h1
  generalize nums (kp w x) = K at *
  generalize nums (atl w) = A at *
  generalize clN tab (n + 3) = cl at *
  simp [c12, h0, h1]
theorem nums_dropLast (l : List Nat) : (nums l).dropLast = nums l.dropLast := by
  unfold nums
  rw [List.map_dropLast]
theorem sp13 (n : Nat) (w x : List Nat) (hw : w.length ≤ 4999) (hc : ∀ c ∈ w, 46 < c ∧ c < 0x110000) (hx : x.length ≤ 5000) (hx' : ∀ c ∈ x, 46 < c) : clN tab (n + 4) 13 [(.f, str w), (.f, str x)] = .ok ((.f, .tuple (km w x)), []) := by
  rw [clN_go (rfl : tab 13 = some ⟨2, 6, [], noEx c13⟩) rfl]
  have h2 := sp1 (n + 1) w (by omega) (fun c h => (hc c h).2)
  obtain ⟨ow, h12⟩ := sp11 n w x hw hx hx'
  have hkl := ke_len w x
  have hLl : (La (w ++ [46])).length = w.length + 1 := by rw [La_len]; simp
  have h1 := lc_all (cl := clN tab (n + 3)) (e := [some (.f, str w), some (.f, str x), some (.f, str (La (w ++ [46]))), some (.o, .list (nums (ke (rgs (w ++ [46]) x)).dropLast)), none, none]) (as := [.n 3]) (f := itE) (tg := .t [(.n 4), (.n 5)]) (own := [4, 5]) (c := cOp (fEqM false) [.v (cOp fIx [.n 2, .v (cOp fSub [.n 5, .v (cK (.int 1))])]), .v (cOp fIx [.n 1, .v (cOp fSub [.v (cOp fSub [.v (cOp fLen [.n 1]), .v (cK (.int 1))]), .n 4])])]) (ke (rgs (w ++ [46]) x)).dropLast.zipIdx (fun q => PyData.tuple [.int (q.2 : Int), .int (q.1 : Int)]) (mv w x)
    (it_n (x := (.o, .list (nums (ke (rgs (w ++ [46]) x)).dropLast))) rfl (by simp) (by rw [i_EL, nums, enum_map])) (by simp; rfl) (by rw [List.length_zipIdx, List.length_dropLast]; omega) (by simp) (fun q hq => by
      have hq2 := zip_mem.mp hq
      have hm : q.1 ∈ ke (rgs (w ++ [46]) x) := (List.dropLast_sublist _).subset (List.mem_of_getElem? hq2)
      have hi := (List.getElem?_eq_some_iff.mp hq2).1
      rw [List.length_dropLast] at hi
      obtain ⟨p0, p1⟩ := ke_mem hm
      have a1 := o_ixS (l := La (w ++ [46])) (i := (q.1 : Int) - 1) (by omega)
      rw [atI_pred (La (w ++ [46])) 0 q.1 p0 (by omega)] at a1
      have a2 := o_ixS (l := x) (i := (x.length : Int) - 1 - (q.2 : Int)) (by omega)
      have e3 : (x.length : Int) - 1 - (q.2 : Int) = ((x.length - 1 - q.2 : Nat) : Int) := by omega
      have a3 : x[x.length - 1 - q.2]? = some (x.getD (x.length - 1 - q.2) 0) := by
        rw [List.getD_eq_getElem?_getD, List.getElem?_eq_getElem (by omega)]
        rfl
      rw [e3, atI_nat, a3, ← e3] at a2
      have a4 := o_len (l := x) (by omega)
      unfold mv
      generalize (La (w ++ [46])).getD (q.1 - 1) 0 = y at *
      generalize x.getD (x.length - 1 - q.2) 0 = y' at *
      generalize La (w ++ [46]) = L at *
      generalize clN tab (n + 3) = cl at *
      clear hkl hi e3 a3
      generalize x.length = m at *
      have a5 : fEqM false [str [y], str [y']] = some (.f, .bool (decide (y = y'))) := by rw [o_eqS]; simp
      simp [lcStep, a1, a2, a4, a5])
  have h3 : fSlB [.list (nums (ke (rgs (w ++ [46]) x))), .int (-1)] = some (.o, .list (nums (ke (rgs (w ++ [46]) x)).dropLast)) := by rw [o_slBm1, nums_dropLast]
  have e1 : (ke (rgs (w ++ [46]) x)).dropLast.zipIdx.map (mv w x) = km w x := rfl
  rw [e1] at h1
  generalize nums (ke (rgs (w ++ [46]) x)).dropLast = K at *
  generalize nums (ke (rgs (w ++ [46]) x)) = K' at *
  generalize km w x = K'' at *
  generalize La (w ++ [46]) = L at *
  generalize clN tab (n + 3) = cl at *
  simp [c13, h2, h12, h3, h1]
end G
end

section
set_option Elab.async false
set_option linter.all false
set_option maxRecDepth 100000
set_option maxHeartbeats 1000000
namespace G
open PySem Ev B
theorem atl_at (w : List Nat) : atl w = at_ w := rfl
theorem eqI_t {i j : Int} (h : i = j) : fEqM false [.int i, .int j] = some (.f, .bool true) := by
  rw [o_eqI, decide_eq_true h]
  rfl
theorem eqI_f {i j : Int} (h : i ≠ j) : fEqM false [.int i, .int j] = some (.f, .bool false) := by
  rw [o_eqI, decide_eq_false h]
  rfl
theorem eqS_t {a b : List Nat} (h : a = b) : fEqM false [str a, str b] = some (.f, .bool true) := by
  rw [o_eqS, decide_eq_true h]
  rfl
theorem eqS_f {a b : List Nat} (h : a ≠ b) : fEqM false [str a, str b] = some (.f, .bool false) := by
  rw [o_eqS, decide_eq_false h]
  rfl
theorem neS1 {a b : Nat} : fEqM true [str [a], str [b]] = some (.f, .bool (a != b)) := by
  rw [o_eqS]
  congr 3
  rw [Bool.eq_iff_iff]
  simp
theorem eqSx {x : Str} : fEqM false [.str x, .str x] = some (.f, .bool true) := by
  show (if min (PyData.str x).depth (PyData.str x).depth ≤ 64 then some (Ow.f, PyData.bool (false != PyData.eqv (.str x) (.str x))) else none) = _
  rw [if_pos (by simp [PyData.depth])]
  simp [PyData.eqv]
theorem eqB {b : Bool} : fEqM false [.bool b, .bool b] = some (.f, .bool true) := by
  show (if min (PyData.bool b).depth (PyData.bool b).depth ≤ 64 then some (Ow.f, PyData.bool (false != PyData.eqv (.bool b) (.bool b))) else none) = _
  rw [if_pos (by simp [PyData.depth])]
  simp [PyData.eqv]
theorem sp18 : ∀ (m k : Nat) (d : PyData), m + 1 ≤ k → plB m d = true → clN tab k 18 [(.f, d), (.f, d)] = .ok ((.f, .bool true), [])
  | m, 0, d, hk, _ => by omega
  | m, k + 1, .none, hk, _ => by
    rw [clN_go (rfl : tab 18 = some ⟨2, 4, [], noEx c18⟩) rfl]
    generalize clN tab k = cl
    simp [c18]
  | m, k + 1, .bool b, hk, _ => by
    rw [clN_go (rfl : tab 18 = some ⟨2, 4, [], noEx c18⟩) rfl]
    generalize clN tab k = cl
    simp [c18, eqB]
  | m, k + 1, .int i, hk, _ => by
    rw [clN_go (rfl : tab 18 = some ⟨2, 4, [], noEx c18⟩) rfl]
    generalize clN tab k = cl
    simp [c18, eqI_t]
  | m, k + 1, .str x, hk, _ => by
    rw [clN_go (rfl : tab 18 = some ⟨2, 4, [], noEx c18⟩) rfl]
    generalize clN tab k = cl
    simp [c18, eqSx]
  | m, k + 1, .list _, hk, h => by simp [plB] at h
  | m, k + 1, .dict _, hk, h => by simp [plB] at h
  | 0, k + 1, .tuple _, hk, h => by simp [plB] at h
  | m + 1, k + 1, .tuple ds, hk, h => by
    simp only [plB, Bool.and_eq_true, decide_eq_true_eq, List.all_eq_true] at h
    rw [clN_go (rfl : tab 18 = some ⟨2, 4, [], noEx c18⟩) rfl]
    have ih : ∀ d ∈ ds, clN tab k 18 [(.f, d), (.f, d)] = .ok ((.f, .bool true), []) := fun d hd => sp18 m k d (by omega) (h.2 d hd)
    generalize clN tab k = cl at *
    have hl := lc_all (cl := cl) (e := [some (.f, .tuple ds), some (.f, .tuple ds), none, none]) (as := [.n 0, .n 1]) (f := itZ) (tg := .t [(.n 2), (.n 3)]) (own := [2, 3]) (c := cCall 18 [] [.v (cVar 2), .v (cVar 3)]) ds (fun d => PyData.tuple [d, d]) (fun _ => PyData.bool true)
      (by simp [i_zip]) (by simp; rfl) (by omega) (by simp) (fun d hd => by
        have i1 := ih d hd
        simp [lcStep, i1])
    have ha := o_all ds
    have he : fEqM true [.int (ds.length : Int), .int (ds.length : Int)] = some (.f, .bool false) := by rw [o_eqI]; simp
    generalize (ds.length : Int) = l at *
    have hle : fLen [.tuple ds] = some (.f, .int ds.length) := o_lenT
    generalize ds.map (fun _ => PyData.bool true) = B at *
    simp [c18, he, hl, ha, o_eqI]
theorem nums_lay (l : List Nat) : PyData.canLayAll0 (nums l) = true := by
  induction l with
  | nil => rfl
  | cons a l ih =>
    show PyData.canLayAll0 (.int (a : Int) :: nums l) = true
    simp [PyData.canLayAll0, PyData.canLay0, ih]
theorem nums_dep (l : List Nat) : PyData.depthAll (nums l) = 0 := by
  induction l with
  | nil => rfl
  | cons a l ih =>
    show PyData.depthAll (.int (a : Int) :: nums l) = 0
    simp [PyData.depthAll, PyData.depth, ih]
theorem eqN (l : List Nat) : fEqM false [.tuple (nums l), .tuple (nums l)] = some (.f, .bool true) := by
  show (if min (PyData.tuple (nums l)).depth (PyData.tuple (nums l)).depth ≤ 64 then some (Ow.f, PyData.bool (false != PyData.eqv (.tuple (nums l)) (.tuple (nums l)))) else none) = _
  rw [if_pos (by simp [PyData.depth, nums_dep]), PySem.SeqAt.eqv_refl _ (by simp [PyData.canLay0, nums_lay])]
  rfl
theorem sp19 (k : Nat) (hk : 1 ≤ k) (l : List Nat) (hl : l.length ≤ 100000) : clN tab k 19 [(.f, .tuple (nums l)), (.f, .tuple (nums l))] = .ok ((.f, .bool true), []) := by
  obtain ⟨n, rfl⟩ : ∃ n, k = n + 1 := ⟨k - 1, by omega⟩
  rw [clN_go (rfl : tab 19 = some ⟨2, 3, [], noEx c19⟩) rfl]
  generalize clN tab n = cl at *
  have h := lc_all (cl := cl) (e := [some (.f, .tuple (nums l)), some (.f, .tuple (nums l)), none]) (as := [.n 0]) (f := itV) (tg := .n 2) (own := [2]) (c := cAnd (cOp (fIsi "int") [.n 2]) (cNot (.v (cOp (fIsi "bool") [.n 2])))) l (fun (i : Nat) => PyData.int (i : Int)) (fun _ => PyData.bool true)
    (it_n (x := (.f, .tuple (nums l))) rfl (by simp) (by rw [i_tupV]; rfl)) (by simp; rfl) (by omega) (by simp) (fun i hi => by simp [lcStep])
  have ha := o_all l
  have he := eqN l
  have h2 : fEqM true [.int (l.length : Int), .int (l.length : Int)] = some (.f, .bool false) := by rw [o_eqI]; simp
  have hle : fLen [.tuple (nums l)] = some (.f, .int (l.length : Int)) := by rw [o_lenT, nums_len]
  generalize (l.length : Int) = ll at *
  generalize nums l = N at *
  generalize l.map (fun _ => PyData.bool true) = B at *
  simp [-o_lenT, c19, hle, h2, h, ha, he]
/-! rows, last letters by the law -/
theorem sp21 (k : Nat) (hk : 1 ≤ k) (w : List Nat) (hw : w.length ≤ 5000) (hc : ∀ c ∈ w, 46 < c) : clN tab k 21 [(.f, str w)] = .ok ((.o, .list (nums (atl w))), []) := by
  obtain ⟨n, rfl⟩ : ∃ n, k = n + 1 := ⟨k - 1, by omega⟩
  rw [clN_go (rfl : tab 21 = some ⟨1, 4, [], noEx c21⟩) rfl]
  generalize clN tab n = cl at *
  have hwl := o_len (l := w) (by omega)
  have h1 := lc_all (cl := cl) (e := [some (.f, str w), some (.f, .int (w.length : Int)), none, none]) (as := [.v (cOp fAdd [.n 1, .v (cK (.int 1))])]) (f := itR1) (tg := .n 3) (own := [3]) (c := cOp fSlA [.n 0, .v (cInt (cVar 3))]) (List.range (w.length + 1)) (fun (i : Nat) => PyData.int (i : Int)) (fun (i : Nat) => str (w.drop i))
    (it_v (ow := .f) (d := .int ((w.length : Int) + 1)) (by simp) (i_R1 (n := w.length + 1) (by omega))) (by rw [s_lkv, s_lk0]) (by rw [List.length_range]; omega) (by simp) (fun i hi => by
      have q := o_slA (l := w) (a := i) (by omega)
      generalize w.drop i = y at *
      generalize (w.length : Int) = wl at *
      simp [lcStep, q])
  have e1 : (List.range (w.length + 1)).map (fun (i : Nat) => str (w.drop i)) = (tls w).map str := by
    rw [tls, List.map_map]
    rfl
  rw [e1] at h1
  have h2 : fSorted [.list ((tls w).map str)] = some (.o, .list ((srt leL (tls w)).map str)) := by
    rw [o_sort, sort_str]
    · intro d hd d' hd'
      obtain ⟨t, _, rfl⟩ := List.mem_map.mp hd
      obtain ⟨t', _, rfl⟩ := List.mem_map.mp hd'
      rfl
    · refine .inr fun d hd => ?_
      obtain ⟨t, _, rfl⟩ := List.mem_map.mp hd
      rfl
    · rw [List.length_map, tls, List.length_map, List.length_range]; omega
    · intro d hd
      obtain ⟨t, _, rfl⟩ := List.mem_map.mp hd
      simp [PyData.depth]
  have hln : (srt leL (tls w)).length = w.length + 1 := by
    rw [(srt_perm leL (tls w)).length_eq, tls, List.length_map, List.length_range]
  have h3 := lc_all (cl := cl) (e := [some (.f, str w), some (.f, .int (w.length : Int)), none, none]) (as := [.v (cOp fSorted [.v (cLC ⟨[.v (cOp fAdd [.n 1, .v (cK (.int 1))])], itR1⟩ (.n 3) [3] ctYes (cOp fSlA [.n 0, .v (cInt (cVar 3))]))])]) (f := itV) (tg := .n 2) (own := [2]) (c := cOp fSub [.n 1, .v (cOp fLen [.n 2])]) (srt leL (tls w)) str (fun t => PyData.int ((w.length - t.length : Nat) : Int))
    (it_v (ow := .o) (d := .list ((srt leL (tls w)).map str)) (by simp only [s_op, s_arv, s_bind, s_ar0, s_adv, s_ad0, Option.map_some, s_opRes, h1, h2]) i_listV) (by rw [s_lkv, s_lk0]) (by rw [hln]; omega) (by simp) (fun t ht => by
      have hm := (srt_perm leL (tls w)).mem_iff.mp ht
      obtain ⟨i, hi, rfl⟩ := List.mem_map.mp hm
      have := List.mem_range.mp hi
      have l1 : (w.drop i).length ≤ w.length := by rw [List.length_drop]; omega
      have l3 := o_len (l := w.drop i) (by omega)
      have l4 : ((w.length - (w.drop i).length : Nat) : Int) = (w.length : Int) - ((w.drop i).length : Int) := by omega
      rw [l4]
      generalize ((w.drop i).length : Int) = dl at *
      generalize w.drop i = y at *
      generalize (w.length : Int) = wl at *
      simp [lcStep, l3])
  have e3 : (srt leL (tls w)).map (fun t => PyData.int ((w.length - t.length : Nat) : Int)) = nums (atl w) := by
    rw [atl_at, ← rows_at hc, nums_map]
  rw [e3] at h3
  clear e3 hln e1 h1 h2
  generalize nums (atl w) = N at *
  generalize (w.length : Int) = wl at *
  simp [c21, hwl, h3]
theorem at_bf2 {w t : List Nat} (h : t ∈ T (w ++ [46])) : (((w ++ [46]).length - t.length = 0 ∧ bf (w ++ [46]) t = 46) ∨ ∃ k, k < w.length ∧ (w ++ [46]).length - t.length = k + 1 ∧ w[k]? = some (bf (w ++ [46]) t)) := by
  obtain ⟨j, hj, rfl⟩ := T_mem.mp h
  have hn : (w ++ [46]).length = w.length + 1 := by simp
  have e : ((w ++ [46]).drop j).length = w.length + 1 - j := by rw [List.length_drop, hn]
  cases j with
  | zero => exact .inl ⟨by rw [List.drop_zero]; omega, by simp [bf]⟩
  | succ k =>
    have hk : k < w.length := by omega
    refine .inr ⟨k, hk, by omega, ?_⟩
    unfold bf
    rw [e, hn, if_neg (by omega), show w.length + 1 - (w.length + 1 - (k + 1)) - 1 = k by omega, List.getD_eq_getElem?_getD, List.getElem?_append_left hk, List.getElem?_eq_getElem hk]
    rfl
theorem sp22 (k : Nat) (hk : 1 ≤ k) (w : List Nat) (hw : w.length ≤ 5000) (hc : ∀ c ∈ w, c < 0x110000) : clN tab k 22 [(.f, str w), (.f, .list (nums (atl w)))] = .ok ((.f, str (La (w ++ [46]))), []) := by
  obtain ⟨n, rfl⟩ : ∃ n, k = n + 1 := ⟨k - 1, by omega⟩
  rw [clN_go (rfl : tab 22 = some ⟨2, 3, [], noEx c22⟩) rfl]
  generalize clN tab n = cl at *
  have hs : (w ++ [46]).length ≤ 16777216 := by simp; omega
  have hd : PyData.str "." = str [46] := rfl
  have hd0 : PyData.str "" = str [] := rfl
  have e3 : (T (w ++ [46])).map (fun t => PyData.int (((w ++ [46]).length - t.length : Nat) : Int)) = nums (atl w) := by
    rw [atl, nums_map]
  have h4 := lc_all (cl := cl) (e := [some (.f, str w), some (.f, .list (nums (atl w))), none]) (as := [.n 1]) (f := itV) (tg := .n 2) (own := [2]) (c := cIfE (ctB (cOp (fEqM false) [.n 2, .v (cK (.int 0))])) (cK (.str ".")) (cOp fIx [.n 0, .v (cOp fSub [.n 2, .v (cK (.int 1))])])) (T (w ++ [46])) (fun t => PyData.int (((w ++ [46]).length - t.length : Nat) : Int)) (fun t => str [bf (w ++ [46]) t])
    (it_n (x := (.f, .list (nums (atl w)))) rfl (by simp) (by rw [i_listV, e3])) (by simp; rfl) (by rw [T_len]; exact hs) (by simp) (fun t ht => by
      rcases at_bf2 ht with ⟨h1, h2⟩ | ⟨j, hj, h1, h2⟩
      · rw [h1, h2]
        have f1 := eqI_t (i := ((0 : Nat) : Int)) (j := 0) rfl
        generalize nums (atl w) = A at *
        generalize ((0 : Nat) : Int) = z at *
        simp [lcStep, hd, f1]
      · rw [h1]
        have f1 := eqI_f (i := ((j + 1 : Nat) : Int)) (j := 0) (by omega)
        have f2 := o_ixS (l := w) (i := ((j + 1 : Nat) : Int) - 1) (by omega)
        rw [show ((j + 1 : Nat) : Int) - 1 = (j : Int) by omega, atI_nat, h2, show (j : Int) = ((j + 1 : Nat) : Int) - 1 by omega] at f2
        generalize nums (atl w) = A at *
        generalize ((j + 1 : Nat) : Int) = z at *
        simp [lcStep, hd, f1, f2])
  have hj : fJoin [str [], .list ((T (w ++ [46])).map fun t => str [bf (w ++ [46]) t])] = some (.f, str (La (w ++ [46]))) := by
    have := o_join (ls := La (w ++ [46])) (by rw [La_len]; exact hs) (La_lt hc)
    rw [show (La (w ++ [46])).map (fun c => str [c]) = (T (w ++ [46])).map fun t => str [bf (w ++ [46]) t] by rw [La, List.map_map]; rfl] at this
    exact this
  clear e3
  rw [hd] at h4
  generalize (T (w ++ [46])).map (fun t => str [bf (w ++ [46]) t]) = A1 at *
  generalize La (w ++ [46]) = A3 at *
  generalize nums (atl w) = A2 at *
  simp [c22, hd, hd0, h4, isStr, hj]
end G
end

section
set_option Elab.async false
set_option linter.all false
set_option maxRecDepth 100000
set_option maxHeartbeats 1000000
namespace G
open PySem Ev B
def bd23 : CS := (cSq (cAsg 6 (cK (.int 0)))
  (cSq (cFor ⟨[.v (cK (.str ".abcd"))], itV⟩ (.n 7) (cAsg 6 (cOp fAdd [.n 6, .v (cIfE (ctB (cOp fLt [.n 7, .n 5])) (cMeth isStr fCount (.n 0) [.n 7]) (cK (.int 0)))])))
  (cSq (cPar [2, 3] [(cOp fAdd [.n 6, .v (cMeth isStr fCount (.v (cOp fSlB [.n 0, .v (cInt (cVar 2))])) [.n 5])]), (cOp fAdd [.n 6, .v (cMeth isStr fCount (.v (cOp fSlB [.n 0, .v (cInt (cVar 3))])) [.n 5])])])
  (cDo (cMut muApp 4 [.v (cTup [(cVar 2), (cVar 3)])])))))
def bd23b : CS := (cAsg 6 (cOp fAdd [.n 6, .v (cIfE (ctB (cOp fLt [.n 7, .n 5])) (cMeth isStr fCount (.n 0) [.n 7]) (cK (.int 0)))]))
def bd24 : CS := (cSq (cIf (ctB (cOp fGe [.n 7, .n 8])) cBk cNx)
  (cSq (cIf (ctB (cOp fGt [.n 6, .v (cK (.int 0))])) (cDo (cMut muApp 5 [.v (cOp (fEqM false) [.v (cOp fIx [.n 1, .v (cOp fSub [.v (cOp fIx [.v (cOp fIx [.n 3, .v (cOp fSub [.n 6, .v (cK (.int 1))])]), .v (cK (.int 1))]), .v (cK (.int 1))])]), .v (cOp fIx [.n 2, .v (cOp fSub [.v (cOp fLen [.n 2]), .n 6])])])])) cNx)
  (cDo (cMut muApp 4 [.v (cOp fIx [.n 0, .v (cOp fSub [.n 8, .v (cK (.int 1))])])]))))
def vless (L : List Nat) (s t : Nat) : Nat := if t < s then L.count t else 0
theorem bd23a_ok (cl : Cl) (L : List Nat) (z1 z2 z3 z4 : Option Vl) (s a t : Nat) :
    bd23b cl [some (.f, str L), z1, z2, z3, z4, some (.f, str [s]), some (.f, .int (a : Int)), some (.f, str [t])] = .ok ([some (.f, str L), z1, z2, z3, z4, some (.f, str [s]), some (.f, .int ((a + vless L s t : Nat) : Int)), some (.f, str [t])], .nx) := by
  have hc := o_count (l := L) (c := t)
  unfold vless
  by_cases h : t < s
  · have h1 : fLt [str [t], str [s]] = some (.f, .bool true) := by rw [o_ltS, decide_eq_true (lt_one.mpr h)]
    rw [if_pos h, show ((a + L.count t : Nat) : Int) = (a : Int) + (L.count t : Nat) by omega]
    generalize (a : Int) = aa at *
    generalize ((L.count t : Nat) : Int) = cc at *
    simp [-o_ltS, -o_count, bd23b, h1, hc, isStr]
  · have h1 : fLt [str [t], str [s]] = some (.f, .bool false) := by rw [o_ltS, decide_eq_false (fun q => h (lt_one.mp q))]
    rw [if_neg h, Nat.add_zero]
    generalize (a : Int) = aa at *
    simp [-o_ltS, -o_count, bd23b, h1, isStr]
theorem lp23 (cl : Cl) (L : List Nat) (z1 z2 z3 z4 z7 : Option Vl) (s : Nat) (hL : ∀ l ∈ L, l = 46 ∨ (97 ≤ l ∧ l ≤ 100)) (h7 : nl z7 = true) : ∃ y7, nl y7 = true ∧
    cFor ⟨[.v (cK (.str ".abcd"))], itV⟩ (.n 7) bd23b cl [some (.f, str L), z1, z2, z3, z4, some (.f, str [s]), some (.f, .int 0), z7] = .ok ([some (.f, str L), z1, z2, z3, z4, some (.f, str [s]), some (.f, .int ((L.countP (fun l => decide (l < s)) : Nat) : Int)), y7], .nx) := by
  refine ⟨some (.f, str [100]), rfl, for_v (it_v (ow := .f) (d := str [46, 97, 98, 99, 100]) rfl i_strV) ?_⟩
  have key := less_sum s L hL
  have e : L.countP (fun l => decide (l < s)) = 0 + vless L s 46 + vless L s 97 + vless L s 98 + vless L s 99 + vless L s 100 := by
    rw [key]
    unfold vless
    omega
  rw [e]
  have b0 := bd23a_ok cl L z1 z2 z3 z4 s 0 46
  have b1 := bd23a_ok cl L z1 z2 z3 z4 s (0 + vless L s 46) 97
  have b2 := bd23a_ok cl L z1 z2 z3 z4 s (0 + vless L s 46 + vless L s 97) 98
  have b3 := bd23a_ok cl L z1 z2 z3 z4 s (0 + vless L s 46 + vless L s 97 + vless L s 98) 99
  have b4 := bd23a_ok cl L z1 z2 z3 z4 s (0 + vless L s 46 + vless L s 97 + vless L s 98 + vless L s 99) 100
  rw [show ((0 : Nat) : Int) = 0 from rfl] at b0
  generalize ((0 + vless L s 46 + vless L s 97 + vless L s 98 + vless L s 99 + vless L s 100 : Nat) : Int) = v5 at *
  generalize ((0 + vless L s 46 + vless L s 97 + vless L s 98 + vless L s 99 : Nat) : Int) = v4 at *
  generalize ((0 + vless L s 46 + vless L s 97 + vless L s 98 : Nat) : Int) = v3 at *
  generalize ((0 + vless L s 46 + vless L s 97 : Nat) : Int) = v2 at *
  generalize ((0 + vless L s 46 : Nat) : Int) = v1 at *
  simp [forL, h7, b0, b1, b2, b3, b4]
theorem sp23 (k : Nat) (hk : 1 ≤ k) (w x : List Nat) (hw : w.length ≤ 4999) (hx : x.length ≤ 5000) (hx' : ∀ c ∈ x, 46 < c) (hL : ∀ l ∈ La (w ++ [46]), l = 46 ∨ (97 ≤ l ∧ l ≤ 100)) : clN tab k 23 [(.f, str (La (w ++ [46]))), (.f, str x)] = .ok ((.f, .tuple ((rgs (w ++ [46]) x).map prD)), []) := by
  obtain ⟨n, rfl⟩ : ∃ n, k = n + 1 := ⟨k - 1, by omega⟩
  rw [clN_go (rfl : tab 23 = some ⟨2, 8, [], noEx c23⟩) rfl]
  generalize clN tab n = cl at *
  rw [← lk_rgs w x hx']
  have hll : (La (w ++ [46])).length ≤ 5000 := by rw [La_len]; simp; omega
  generalize La (w ++ [46]) = L at *
  have hls := o_len (l := L) (by omega)
  have hf : ∀ (r : List Nat) (acc : List PyData) (p : Nat × Nat) (z5 z6 z7 : Option Vl), acc.length + r.length ≤ 5001 → nl z5 = true → nl z6 = true → nl z7 = true → ∃ (y5 y6 y7 : Option Vl) (p' : Nat × Nat), forL (.n 5) bd23 cl (r.map fun c => str [c]) [some (.f, str L), some (.f, str x), some (.f, .int (p.1 : Int)), some (.f, .int (p.2 : Int)), some (.o, .list (acc ++ [prD p])), z5, z6, z7] =
      .ok ([some (.f, str L), some (.f, str x), some (.f, .int (p'.1 : Int)), some (.f, .int (p'.2 : Int)), some (.o, .list (acc ++ (lk L r p).map prD)), y5, y6, y7], .nx) := by
    intro r
    induction r with
    | nil => intro acc p z5 z6 z7 _ _ _ _; exact ⟨z5, z6, z7, p, rfl⟩
    | cons c r ih =>
      intro acc p z5 z6 z7 hl h5 h6 h7
      simp at hl
      obtain ⟨y7', hy7, hlp⟩ := lp23 cl L (some (.f, str x)) (some (.f, .int (p.1 : Int))) (some (.f, .int (p.2 : Int))) (some (.o, .list (acc ++ [prD p]))) z7 c hL h7
      obtain ⟨y5, y6, y7, p', h⟩ := ih (acc ++ [prD p]) (lkStep L c p) (some (.f, str [c])) (some (.f, .int ((L.countP (fun l => decide (l < c)) : Nat) : Int))) y7' (by simp; omega) rfl rfl hy7
      refine ⟨y5, y6, y7, p', ?_⟩
      have s1 := o_slB (l := L) (b := p.1) (by omega)
      have s2 := o_slB (l := L) (b := p.2) (by omega)
      have c1 := o_count (l := L.take p.1) (c := c)
      have c2 := o_count (l := L.take p.2) (c := c)
      have e5 : (((L.countP (fun l => decide (l < c)) : Nat) : Int) + ((L.take p.1).count c : Nat)) = ((lkStep L c p).1 : Int) := by unfold lkStep; simp
      have e6 : (((L.countP (fun l => decide (l < c)) : Nat) : Int) + ((L.take p.2).count c : Nat)) = ((lkStep L c p).2 : Int) := by unfold lkStep; simp
      have hap : (acc ++ [prD p]).length < 16777216 := by simp; omega
      have hpd : PyData.tuple [.int ((lkStep L c p).1 : Int), .int ((lkStep L c p).2 : Int)] = prD (lkStep L c p) := rfl
      have elk : acc ++ (lk L (c :: r) p).map prD = acc ++ [prD p] ++ (lk L r (lkStep L c p)).map prD := by rw [lk]; simp
      rw [elk, List.map_cons, forL]
      unfold bd23b at hlp
      generalize acc ++ [prD p] = A at *
      generalize prD (lkStep L c p) = PD at *
      generalize ((lkStep L c p).1 : Int) = i1 at *
      generalize ((lkStep L c p).2 : Int) = i2 at *
      generalize ((L.countP (fun l => decide (l < c)) : Nat) : Int) = cp at *
      generalize (((L.take p.1).count c : Nat) : Int) = k1 at *
      generalize (((L.take p.2).count c : Nat) : Int) = k2 at *
      generalize L.take p.1 = L1 at *
      generalize L.take p.2 = L2 at *
      generalize (p.1 : Int) = q1 at *
      generalize (p.2 : Int) = q2 at *
      simp only [s_tgn, s_gt0, s_gtS, h5, if_true, s_st0, s_stS, bd23, s_sq, s_asg, s_cK, s_bind, s_asgN, h6, hlp]
      simp [-o_count, h6, s1, s2, c1, c2, e5, e6, isStr, hap, hpd]
      exact h
  obtain ⟨y5, y6, y7, p', h⟩ := hf x.reverse [] (0, L.length) none none none (by simp; omega) rfl rfl rfl
  rw [List.map_reverse] at h
  have hli := o_listS (l := x) (by omega)
  have hF := for_v (cl := cl) (c := cOp fListS [.n 1]) (f := itRvL) (it_v (e := [some (.f, str L), some (.f, str x), some (.f, .int ((0 : Nat) : Int)), some (.f, .int (L.length : Int)), some (.o, .list ([] ++ [prD (0, L.length)])), none, none, none]) (ow := .o) (d := .list (x.map fun c => str [c])) (by
    generalize x.map (fun c => str [c]) = X at *
    generalize ([] ++ [prD (0, L.length)]) = Y at *
    simp [hli]) i_rv) h
  unfold bd23 at hF
  rw [show ((0 : Nat) : Int) = 0 from rfl] at hF
  unfold prD at hF
  generalize (L.length : Int) = ll at *
  simp only [c23, s_sq, s_par, s_esS, s_es0, s_lst, s_tup, s_cK, s_op, s_arn, s_ar0, s_bind, List.map_cons, List.map_nil, List.cons_append, List.nil_append, List.replicate, s_gt0, s_gtS, s_adn, s_ad0, Option.map_some, s_opRes, hls, s_lof, s_aaS, s_aa0, s_asgN, nl_n, if_true, s_st0, s_stS, Option.bind_some]
  simp only [List.nil_append, List.append_nil] at hF
  rw [show ((0 : Nat) : Int) = 0 from rfl] at hF
  rw [hF]
  unfold prD
  simp
end G
end

section
set_option Elab.async false
set_option linter.all false
set_option maxRecDepth 100000
set_option maxHeartbeats 1000000
namespace G
open PySem Ev B
theorem tw_at : ∀ (R : List (Nat × Nat)) (t : Nat) (p : Nat × Nat), t ≤ (R.takeWhile ne).length → R[t]? = some p → (ne p = true ↔ t < (R.takeWhile ne).length)
  | [], t, p, _, h => by simp at h
  | a :: R, t, p, hl, h => by
    by_cases ha : ne a = true
    · rw [List.takeWhile_cons_of_pos ha, List.length_cons] at hl ⊢
      cases t with
      | zero =>
        simp at h
        subst h
        simp [ha]
      | succ t =>
        simp at h
        rw [tw_at R t p (by omega) h]
        omega
    · rw [List.takeWhile_cons_of_neg ha] at hl ⊢
      simp at hl
      subst hl
      simp at h
      subst h
      simp [ha]
theorem tw_get : ∀ (R : List (Nat × Nat)) (t : Nat), t < (R.takeWhile ne).length → (R.takeWhile ne)[t]? = R[t]?
  | [], t, h => by simp at h
  | a :: R, t, h => by
    by_cases ha : ne a = true
    · rw [List.takeWhile_cons_of_pos ha] at h ⊢
      cases t with
      | zero => rfl
      | succ t =>
        simp at h ⊢
        exact tw_get R t h
    · rw [List.takeWhile_cons_of_neg ha] at h
      simp at h
theorem rgs_len (s x : List Nat) : (rgs s x).length = x.length + 1 := by
  unfold rgs
  rw [List.length_map, List.length_range]
/-- the number of places that are kept -/
def kn (w x : List Nat) : Nat := ((rgs (w ++ [46]) x).takeWhile ne).length
theorem kn_le (w x : List Nat) : kn w x ≤ x.length + 1 := by
  have h := (List.takeWhile_sublist ne (l := rgs (w ++ [46]) x)).length_le
  rw [rgs_len] at h
  exact h
theorem kp_len (w x : List Nat) : (kp w x).length = kn w x := by
  unfold kp ke kn
  rw [List.length_map, List.length_map]
theorem km_len (w x : List Nat) : (km w x).length = kn w x - 1 := by
  unfold km ke kn
  rw [List.length_map, List.length_zipIdx, List.length_dropLast, List.length_map]
theorem ke_at {w x : List Nat} {t : Nat} {p : Nat × Nat} (h : t < kn w x) (hp : (rgs (w ++ [46]) x)[t]? = some p) : (ke (rgs (w ++ [46]) x))[t]? = some p.2 := by
  unfold ke
  rw [List.getElem?_map, tw_get _ t h, hp]
  rfl
theorem kp_at {w x : List Nat} {t : Nat} {p : Nat × Nat} (h : t < kn w x) (hp : (rgs (w ++ [46]) x)[t]? = some p) : (kp w x)[t]? = some ((atl w).getD (p.2 - 1) 0) := by
  unfold kp
  rw [List.getElem?_map, ke_at h hp]
  rfl
theorem km_at {w x : List Nat} {t : Nat} {p : Nat × Nat} (h : t + 1 < kn w x) (hp : (rgs (w ++ [46]) x)[t]? = some p) : (km w x)[t]? = some (mv w x (p.2, t)) := by
  unfold km
  have hl : (ke (rgs (w ++ [46]) x)).length = kn w x := by
    unfold ke kn
    rw [List.length_map]
  rw [List.getElem?_map, List.getElem?_zipIdx, List.getElem?_dropLast, if_pos (by rw [hl]; omega), ke_at (by omega) hp]
  simp
theorem drop_cons {α : Type} {l : List α} {t : Nat} {a : α} {r : List α} (h : l.drop t = a :: r) : l[t]? = some a ∧ r = l.drop (t + 1) := by
  constructor
  · have := congrArg (fun x => x[0]?) h
    simpa using this
  · have := congrArg (fun x => x.drop 1) h
    simp only [List.drop_drop, List.drop_succ_cons, List.drop_zero] at this
    rw [← this]
theorem bd_brk (cl : Cl) (LL x : List Nat) (AA RR out moves : List PyData) (a p1 p2 : Int) (d1 : fGe [.int p1, .int p2] = some (.f, .bool true)) :
    bd24 cl [some (.f, .list AA), some (.f, str LL), some (.f, str x), some (.f, .tuple RR), some (.o, .list out), some (.o, .list moves), some (.f, .int a), some (.f, .int p1), some (.f, .int p2)] = .ok ([some (.f, .list AA), some (.f, str LL), some (.f, str x), some (.f, .tuple RR), some (.o, .list out), some (.o, .list moves), some (.f, .int a), some (.f, .int p1), some (.f, .int p2)], .bk) := by
  simp [-o_geI, bd24, d1]
theorem bd_zero (cl : Cl) (LL x : List Nat) (AA RR out moves : List PyData) (y : PyData) (a p1 p2 : Int) (d1 : fGe [.int p1, .int p2] = some (.f, .bool false)) (d2 : fGt [.int a, .int 0] = some (.f, .bool false)) (ha : L2.atI AA (p2 - 1) = some y) (hl : out.length < 16777216) :
    bd24 cl [some (.f, .list AA), some (.f, str LL), some (.f, str x), some (.f, .tuple RR), some (.o, .list out), some (.o, .list moves), some (.f, .int a), some (.f, .int p1), some (.f, .int p2)] = .ok ([some (.f, .list AA), some (.f, str LL), some (.f, str x), some (.f, .tuple RR), some (.o, .list (out ++ [y])), some (.o, .list moves), some (.f, .int a), some (.f, .int p1), some (.f, .int p2)], .nx) := by
  simp [-o_geI, -o_gtI, bd24, d1, d2, ha, hl]
theorem bd_succ (cl : Cl) (LL x : List Nat) (AA RR out moves : List PyData) (y u v : PyData) (xl a p1 p2 q1 q2 : Int) (b : Bool) (d1 : fGe [.int p1, .int p2] = some (.f, .bool false)) (d2 : fGt [.int a, .int 0] = some (.f, .bool true)) (ha : L2.atI AA (p2 - 1) = some y) (hl : out.length < 16777216)
    (hq : L2.atI RR (a - 1) = some (.tuple [.int q1, .int q2])) (hL : fIx [str LL, .int (q2 - 1)] = some (.f, u)) (hxl : fLen [str x] = some (.f, .int xl)) (hx : fIx [str x, .int (xl - a)] = some (.f, v)) (he : fEqM false [u, v] = some (.f, .bool b)) (hm : moves.length < 16777216) :
    bd24 cl [some (.f, .list AA), some (.f, str LL), some (.f, str x), some (.f, .tuple RR), some (.o, .list out), some (.o, .list moves), some (.f, .int a), some (.f, .int p1), some (.f, .int p2)] = .ok ([some (.f, .list AA), some (.f, str LL), some (.f, str x), some (.f, .tuple RR), some (.o, .list (out ++ [y])), some (.o, .list (moves ++ [.bool b])), some (.f, .int a), some (.f, .int p1), some (.f, .int p2)], .nx) := by
  have i3 : fIx [.tuple [.int q1, .int q2], .int 1] = some (.f, .int q2) := rfl
  have i4 : fIx [.tuple RR, .int (a - 1)] = some (.f, .tuple [.int q1, .int q2]) := by rw [o_ixT, hq]; rfl
  simp [-o_geI, -o_gtI, bd24, d1, d2, ha, hl, i3, i4, hL, hxl, hx, he, hm]
def K24 (w x : List Nat) (out moves : List PyData) (z6 z7 z8 : Option Vl) : En := [some (.f, .list (nums (atl w))), some (.f, str (La (w ++ [46]))), some (.f, str x), some (.f, .tuple ((rgs (w ++ [46]) x).map prD)), some (.o, .list out), some (.o, .list moves), z6, z7, z8]
theorem sp24 (k : Nat) (hk : 1 ≤ k) (w x : List Nat) (hw : w.length ≤ 4999) (hx : x.length ≤ 5000) : clN tab k 24 [(.f, .list (nums (atl w))), (.f, str (La (w ++ [46]))), (.f, str x), (.f, .tuple ((rgs (w ++ [46]) x).map prD))] = .ok ((.f, .tuple [.tuple (nums (kp w x)), .tuple (km w x)]), []) := by
  obtain ⟨n, rfl⟩ : ∃ n, k = n + 1 := ⟨k - 1, by omega⟩
  have hxl := o_len (l := x) (by omega)
  have hLl : (La (w ++ [46])).length = w.length + 1 := by rw [La_len]; simp
  have hal := atl_len w
  have hkl := kp_len w x
  have hml := km_len w x
  have hkn := kn_le w x
  have hrl := rgs_len (w ++ [46]) x
  obtain ⟨e', ⟨z6, z7, z8, rfl⟩, hf⟩ := forL_brk (cl := clN tab n) (tg := .t [(.n 6), (.t [(.n 7), (.n 8)])]) (body := bd24) (fun (q : (Nat × Nat) × Nat) => PyData.tuple [.int (q.2 : Int), prD q.1])
    (fun r e => ∃ t z6 z7 z8, nl z6 = true ∧ nl z7 = true ∧ nl z8 = true ∧ r = (rgs (w ++ [46]) x).zipIdx.drop t ∧ t ≤ kn w x ∧ e = K24 w x (nums ((kp w x).take t)) ((km w x).take (t - 1)) z6 z7 z8)
    (fun e => ∃ z6 z7 z8, e = K24 w x (nums (kp w x)) (km w x) z6 z7 z8)
    (by
      rintro e ⟨t, z6, z7, z8, _, _, _, hr, ht, rfl⟩
      have hr' : x.length + 1 ≤ t := by
        have := congrArg List.length hr
        rw [List.length_drop, List.length_zipIdx, hrl] at this
        simp at this
        omega
      rw [List.take_of_length_le (by omega), List.take_of_length_le (by omega)]
      exact ⟨z6, z7, z8, rfl⟩)
    (by
      rintro q0 r e ⟨a, z6, z7, z8, h6, h7, h8, hr, ht, rfl⟩
      obtain ⟨hq0, hr2⟩ := drop_cons hr.symm
      rw [List.getElem?_zipIdx] at hq0
      obtain ⟨p, hp, hq0⟩ := Option.map_eq_some_iff.mp hq0
      subst hq0
      simp only [Nat.zero_add]
      have hlt : a < x.length + 1 := by
        have := (List.getElem?_eq_some_iff.mp hp).1
        omega
      refine ⟨K24 w x (nums ((kp w x).take a)) ((km w x).take (a - 1)) (some (.f, .int (a : Int))) (some (.f, .int (p.1 : Int))) (some (.f, .int (p.2 : Int))), by simp [K24, h6, h7, h8, prD], ?_⟩
      have hne := tw_at _ a p ht hp
      by_cases hc : p.1 < p.2
      · left
        have hak : a < kn w x := hne.mp (by simpa [ne] using hc)
        have d1 : fGe [.int (p.1 : Int), .int (p.2 : Int)] = some (.f, .bool false) := by rw [o_geI, decide_eq_false (by omega)]
        have hpm : p.2 ≤ w.length + 1 := by
          have hm := List.mem_of_getElem? hp
          obtain ⟨u, _, rfl⟩ := List.mem_map.mp hm
          exact rg_le w _
        have a1 := atI_pred (nums (atl w)) (.int 0) p.2 (by omega) (by rw [nums_len, hal]; omega)
        have a2 : (nums (atl w)).getD (p.2 - 1) (.int 0) = .int ((atl w).getD (p.2 - 1) 0 : Nat) := by
          rw [List.getD_eq_getElem?_getD, nums_get, List.getD_eq_getElem?_getD]
          cases (atl w)[p.2 - 1]? <;> rfl
        rw [a2] at a1
        have ka := kp_at hak hp
        have ek : nums ((kp w x).take (a + 1)) = nums ((kp w x).take a) ++ [.int ((atl w).getD (p.2 - 1) 0 : Nat)] := by
          rw [List.take_succ, ka, nums_app]
          rfl
        have hap : (nums ((kp w x).take a)).length < 16777216 := by
          rw [nums_len, List.length_take]
          omega
        cases a with
        | zero =>
          have d2 : fGt [.int ((0 : Nat) : Int), .int 0] = some (.f, .bool false) := rfl
          refine ⟨K24 w x (nums ((kp w x).take (0 + 1))) ((km w x).take 0) (some (.f, .int ((0 : Nat) : Int))) (some (.f, .int (p.1 : Int))) (some (.f, .int (p.2 : Int))), ?_, ⟨0 + 1, _, _, _, rfl, rfl, rfl, hr2, by omega, rfl⟩⟩
          rw [ek]
          exact bd_zero (clN tab n) _ _ _ _ _ _ _ _ _ _ d1 d2 a1 hap
        | succ a =>
          have d2 : fGt [.int ((a + 1 : Nat) : Int), .int 0] = some (.f, .bool true) := by rw [o_gtI, decide_eq_true (by omega)]
          obtain ⟨q, hq⟩ : ∃ q, (rgs (w ++ [46]) x)[a]? = some q := ⟨_, List.getElem?_eq_getElem (by omega)⟩
          have hq2 : L2.atI ((rgs (w ++ [46]) x).map prD) (((a + 1 : Nat) : Int) - 1) = some (prD q) := by
            rw [show ((a + 1 : Nat) : Int) - 1 = (a : Int) by omega, atI_nat, List.getElem?_map, hq]
            rfl
          have hqm : q.2 ≤ w.length + 1 := by
            have hm := List.mem_of_getElem? hq
            obtain ⟨u, _, rfl⟩ := List.mem_map.mp hm
            exact rg_le w _
          have hqk := ke_at (w := w) (x := x) (by omega : a < kn w x) hq
          have hq0 := (ke_mem (List.mem_of_getElem? hqk)).1
          have km1 := km_at (w := w) (x := x) (by omega : a + 1 < kn w x) hq
          have b1 := o_ixS (l := La (w ++ [46])) (i := (q.2 : Int) - 1) (by omega)
          rw [atI_pred (La (w ++ [46])) 0 q.2 hq0 (by omega)] at b1
          have b2 := o_ixS (l := x) (i := (x.length : Int) - ((a + 1 : Nat) : Int)) (by omega)
          have e3 : (x.length : Int) - ((a + 1 : Nat) : Int) = ((x.length - 1 - a : Nat) : Int) := by omega
          have e4 : x[x.length - 1 - a]? = some (x.getD (x.length - 1 - a) 0) := by
            rw [List.getD_eq_getElem?_getD, List.getElem?_eq_getElem (by omega)]
            rfl
          rw [e3, atI_nat, e4, ← e3] at b2
          have he : fEqM false [str [(La (w ++ [46])).getD (q.2 - 1) 0], str [x.getD (x.length - 1 - a) 0]] = some (.f, .bool (decide ((La (w ++ [46])).getD (q.2 - 1) 0 = x.getD (x.length - 1 - a) 0))) := by rw [o_eqS]; simp
          have hmm : ((km w x).take (a + 1 - 1)).length < 16777216 := by
            rw [List.length_take]
            omega
          have em : (km w x).take (a + 1 + 1 - 1) = (km w x).take (a + 1 - 1) ++ [.bool (decide ((La (w ++ [46])).getD (q.2 - 1) 0 = x.getD (x.length - 1 - a) 0))] := by
            rw [show a + 1 + 1 - 1 = a + 1 by omega, show a + 1 - 1 = a by omega, List.take_succ, km1]
            rfl
          refine ⟨K24 w x (nums ((kp w x).take (a + 1 + 1))) ((km w x).take (a + 1 + 1 - 1)) (some (.f, .int ((a + 1 : Nat) : Int))) (some (.f, .int (p.1 : Int))) (some (.f, .int (p.2 : Int))), ?_, ⟨a + 1 + 1, _, _, _, rfl, rfl, rfl, hr2, by omega, rfl⟩⟩
          rw [ek, em]
          exact bd_succ (clN tab n) _ _ _ _ _ _ _ _ _ _ _ _ _ _ _ _ d1 d2 a1 hap hq2 b1 hxl b2 he hmm
      · right
        have hak : a = kn w x := by
          have := mt hne.mpr (by simpa [ne] using hc)
          unfold kn at *
          omega
        have d1 : fGe [.int (p.1 : Int), .int (p.2 : Int)] = some (.f, .bool true) := by rw [o_geI, decide_eq_true (by omega)]
        rw [List.take_of_length_le (by omega), List.take_of_length_le (by omega)]
        exact ⟨_, bd_brk (clN tab n) _ _ _ _ _ _ _ _ _ d1, ⟨_, _, _, rfl⟩⟩)
    (rgs (w ++ [46]) x).zipIdx (K24 w x (nums []) [] none none none) ⟨0, none, none, none, rfl, rfl, rfl, rfl, Nat.zero_le _, by simp⟩
  have hF := for_n (cl := clN tab n) (i := 3) (f := itE) (e := K24 w x (nums []) [] none none none) (d := .tuple ((rgs (w ++ [46]) x).map prD)) rfl (by rw [i_ET, enum_map]) hf
  unfold bd24 K24 at hF
  have hn : nums [] = [] := rfl
  rw [hn] at hF
  rw [clN_go (rfl : tab 24 = some ⟨4, 9, [], noEx c24⟩) rfl]
  generalize (rgs (w ++ [46]) x).map prD = RR at *
  generalize nums (kp w x) = N1 at *
  generalize km w x = N2 at *
  generalize nums (atl w) = N3 at *
  generalize La (w ++ [46]) = N4 at *
  generalize clN tab n = cl at *
  simp only [c24, s_sq, s_par, s_esS, s_lst, s_es0, s_bind, List.map_cons, List.map_nil, List.cons_append, List.nil_append, List.replicate, s_lo0, s_aaS, s_aa0, s_asgN, s_gt0, s_gtS, nl_n, if_true, s_st0, s_stS, Option.bind_some, hF]
  simp
end G
end

section
set_option Elab.async false
set_option linter.all false
set_option maxRecDepth 100000
set_option maxHeartbeats 1000000
namespace G
open PySem Ev B
def lk_ (w : List Nat) (k : Nat) : Nat := (La (w ++ [46])).getD k 0
theorem lk_ix {w : List Nat} {k : Nat} (hw : w.length ≤ 4999) (h : k ≤ w.length) : fIx [str (La (w ++ [46])), .int (k : Int)] = some (.f, str [lk_ w k]) := by
  have hLl : (La (w ++ [46])).length = w.length + 1 := by rw [La_len]; simp
  rw [o_ixS (by omega), atI_nat]
  unfold lk_
  rw [List.getD_eq_getElem?_getD, List.getElem?_eq_getElem (by omega)]
  rfl
theorem at_pos {w : List Nat} {k : Nat} (h : k ≤ w.length) (hne : lk_ w k ≠ 46) : 1 ≤ (at_ w).getD k 0 := by
  have hn : (w ++ [46]).length = w.length + 1 := by simp
  have hT : k < (T (w ++ [46])).length := by rw [T_len, hn]; omega
  have ht := List.getElem?_eq_getElem hT
  have a := at_getD ht
  by_cases h0 : 1 ≤ (at_ w).getD k 0
  · exact h0
  · exfalso
    apply hne
    unfold lk_
    rw [La_at ht]
    unfold bf
    obtain ⟨j, hj, hjt⟩ := T_mem.mp (List.mem_of_getElem? ht)
    have hl : (T (w ++ [46]))[k].length ≤ (w ++ [46]).length := by rw [hjt, List.length_drop]; omega
    rw [if_pos (by omega)]
theorem at_ix {w : List Nat} {k : Nat} (h : k ≤ w.length) : L2.atI (nums (atl w)) (k : Int) = some (.int ((at_ w).getD k 0 : Nat)) := by
  have hal := atl_len w
  rw [atI_nat, nums_get, List.getElem?_eq_getElem (by omega)]
  unfold at_ at *
  rw [List.getD_eq_getElem?_getD, List.getElem?_eq_getElem (by unfold atl at hal; omega)]
  rfl
def e1_ (w : List Nat) (k : Nat) : Bool := k == w.length || lk_ w (k + 1) != lk_ w k
theorem en_is (w : List Nat) (k : Nat) : en w k = (lk_ w k != 46 && e1_ w k) := rfl
/-- row + 1 == n or lasts[row + 1] != lasts[row] -/
theorem e1_t (cl : Cl) (w : List Nat) (k : Nat) (hw : w.length ≤ 4999) (hk : k ≤ w.length) (e : En) (ar : Ar) (xs : List (Option Vl)) (i j : Nat) (hi : gt e i = some (.f, .int (k : Int))) (hj : gt e j = some (.f, str (La (w ++ [46]))))
    (hc : arRun [ar] cl e = .ok (e, xs)) (hd : arDat [ar] e xs = some [.int ((w.length : Int) + 1)]) :
    ctOr (ctB (cOp (fEqM false) [.v (cOp fAdd [.n i, .v (cK (.int 1))]), ar])) (ctB (cOp (fEqM true) [.v (cOp fIx [.n j, .v (cOp fAdd [.n i, .v (cK (.int 1))])]), .v (cOp fIx [.n j, .n i])])) cl e = .ok (e, e1_ w k) := by
  unfold e1_
  by_cases h : k = w.length
  · have f1 := eqI_t (i := (k : Int) + 1) (j := (w.length : Int) + 1) (by omega)
    rw [show (k == w.length) = true by simpa using h, Bool.true_or]
    clear h
    generalize (k : Int) = kk at *
    generalize (w.length : Int) + 1 = ll at *
    simp [hi, hj, hc, hd, f1]
  · have f1 := eqI_f (i := (k : Int) + 1) (j := (w.length : Int) + 1) (by omega)
    have f2 := lk_ix (w := w) (k := k) hw hk
    have f3 := lk_ix (w := w) (k := k + 1) hw (by omega)
    rw [show ((k + 1 : Nat) : Int) = (k : Int) + 1 by omega] at f3
    have f4 := neS1 (a := lk_ w (k + 1)) (b := lk_ w k)
    rw [show (k == w.length) = false by simpa using h, Bool.false_or]
    clear h
    generalize (lk_ w (k + 1) != lk_ w k) = b at *
    generalize lk_ w (k + 1) = y1 at *
    generalize lk_ w k = y2 at *
    generalize (k : Int) = kk at *
    generalize (w.length : Int) + 1 = ll at *
    generalize La (w ++ [46]) = L at *
    simp [hi, hj, hc, hd, f1, f2, f3, f4]
theorem EN_len (w : List Nat) : (EN w).length ≤ w.length + 1 := by
  unfold EN
  rw [List.length_map]
  have := List.length_filter_le (en w) (List.range (w.length + 1))
  rw [List.length_range] at this
  exact this
theorem sp25 (k : Nat) (hk : 1 ≤ k) (w : List Nat) (hw : w.length ≤ 4999) : clN tab k 25 [(.f, .list (nums (atl w))), (.f, str (La (w ++ [46])))] = .ok ((.f, .tuple (nums (srt leN (EN w)))), []) := by
  obtain ⟨n, rfl⟩ : ∃ n, k = n + 1 := ⟨k - 1, by omega⟩
  rw [clN_go (rfl : tab 25 = some ⟨2, 5, [], noEx c25⟩) rfl]
  generalize clN tab n = cl at *
  have hd : PyData.str "." = str [46] := rfl
  have hal := atl_len w
  have hlen : fLen [.list (nums (atl w))] = some (.f, .int ((w.length : Int) + 1)) := by
    rw [o_lenL, nums_len, hal]
    rfl
  have h := lc_step (cl := cl) (e := [some (.f, .list (nums (atl w))), some (.f, str (La (w ++ [46]))), some (.f, .int ((w.length : Int) + 1)), none, none]) (as := [.n 2]) (f := itR1) (tg := .n 3) (own := [3]) (t := ctAnd (ctB (cOp (fEqM true) [.v (cOp fIx [.n 1, .n 3]), .v (cK (.str "."))])) (ctOr (ctB (cOp (fEqM false) [.v (cOp fAdd [.n 3, .v (cK (.int 1))]), .n 2])) (ctB (cOp (fEqM true) [.v (cOp fIx [.n 1, .v (cOp fAdd [.n 3, .v (cK (.int 1))])]), .v (cOp fIx [.n 1, .n 3])])))) (c := cOp fSub [.v (cOp fIx [.n 0, .n 3]), .v (cK (.int 1))])
    (List.range (w.length + 1)) (fun (i : Nat) => PyData.int (i : Int)) (en w) (fun i => PyData.int (((at_ w).getD i 0 - 1 : Nat) : Int))
    (it_n (x := (.f, .int ((w.length : Int) + 1))) rfl (by simp) (i_R1 (n := w.length + 1) (by omega))) (by simp; rfl) (by rw [List.length_range]; omega) (by simp) (fun i hi => by
      have hi := List.mem_range.mp hi
      have f2 := lk_ix (w := w) (k := i) hw (by omega)
      have f4 := neS1 (a := lk_ w i) (b := 46)
      have e1 := e1_t cl w i hw (by omega) [some (.f, .list (nums (atl w))), some (.f, str (La (w ++ [46]))), some (.f, .int ((w.length : Int) + 1)), some (.f, .int (i : Int)), none] (.n 2) [none] 3 1 rfl rfl rfl rfl
      have a1 := at_ix (w := w) (k := i) (by omega)
      rw [en_is]
      by_cases h46 : lk_ w i = 46
      · have hb : (lk_ w i != 46) = false := by simpa using h46
        rw [hb] at f4 ⊢
        clear e1 h46 hb
        generalize lk_ w i = y at *
        generalize (i : Int) = ii at *
        generalize La (w ++ [46]) = L at *
        generalize nums (atl w) = A at *
        generalize (w.length : Int) + 1 = ll at *
        simp [lcStep, hd, f2, f4]
      · have hb : (lk_ w i != 46) = true := by simpa using h46
        have hpos := at_pos (w := w) (k := i) (by omega) h46
        have hsub : ((at_ w).getD i 0 : Int) - 1 = (((at_ w).getD i 0 - 1 : Nat) : Int) := by omega
        rw [hb] at f4 ⊢
        rw [Bool.true_and]
        clear hb h46
        generalize lk_ w i = y at *
        cases he : e1_ w i with
        | true =>
          rw [he] at e1
          generalize (((at_ w).getD i 0 - 1 : Nat) : Int) = g1 at *
          generalize ((at_ w).getD i 0 : Int) = g2 at *
          generalize (i : Int) = ii at *
          generalize La (w ++ [46]) = L at *
          generalize nums (atl w) = A at *
          generalize (w.length : Int) + 1 = ll at *
          simp [-s_tOr, lcStep, hd, f2, f4, e1, a1, hsub]
        | false =>
          rw [he] at e1
          generalize (((at_ w).getD i 0 - 1 : Nat) : Int) = g1 at *
          generalize ((at_ w).getD i 0 : Int) = g2 at *
          generalize (i : Int) = ii at *
          generalize La (w ++ [46]) = L at *
          generalize nums (atl w) = A at *
          generalize (w.length : Int) + 1 = ll at *
          simp [-s_tOr, lcStep, hd, f2, f4, e1])
  have e1 : ((List.range (w.length + 1)).filter (en w)).map (fun i => PyData.int (((at_ w).getD i 0 - 1 : Nat) : Int)) = nums (EN w) := by
    rw [EN, nums_map]
  rw [e1] at h
  have hs := o_sortN (EN w) (by have := EN_len w; omega)
  rw [hd] at h
  clear e1
  generalize nums (EN w) = N1 at *
  generalize nums (srt leN (EN w)) = N2 at *
  generalize nums (atl w) = A at *
  generalize La (w ++ [46]) = L at *
  generalize (w.length : Int) + 1 = ll at *
  simp [-s_tAnd, -s_tOr, c25, hd, hlen, h, hs]
theorem sp14 (k : Nat) (hk : 3 ≤ k) (w : List Nat) (hw : w.length ≤ 4999) (hc : ∀ c ∈ w, c < 0x110000) : clN tab k 14 [(.f, str w)] = .ok ((.f, .tuple (nums (srt leN (EN w)))), []) := by
  obtain ⟨m, rfl⟩ : ∃ m, k = m + 1 + 1 + 1 := ⟨k - 3, by omega⟩
  rw [clN_go (rfl : tab 14 = some ⟨1, 5, [], noEx c14⟩) rfl]
  have hd : PyData.str "." = str [46] := rfl
  have hal := atl_len w
  have hLl : (La (w ++ [46])).length = w.length + 1 := by rw [La_len]; simp
  have c0 := sp0' (m + 1) w (by omega)
  have c1 : clN tab (m + 1 + 1) 1 [(.f, str w)] = .ok ((.f, str (La (w ++ [46]))), []) := sp1 m w (by omega) hc
  generalize clN tab (m + 1 + 1) = cl at *
  have hlen : fLen [str (La (w ++ [46]))] = some (.f, .int ((w.length : Int) + 1)) := by
    rw [o_len (by omega), hLl]
    rfl
  have h := lc_step (cl := cl) (e := [some (.f, str w), some (.f, str (La (w ++ [46]))), some (.f, .tuple (nums (atl w))), none, none]) (as := [.v (cOp fLen [.n 1])]) (f := itR1) (tg := .n 3) (own := [3]) (t := ctOr (ctB (cOp (fEqM false) [.v (cOp fAdd [.n 3, .v (cK (.int 1))]), .v (cOp fLen [.n 1])])) (ctB (cOp (fEqM true) [.v (cOp fIx [.n 1, .v (cOp fAdd [.n 3, .v (cK (.int 1))])]), .v (cOp fIx [.n 1, .n 3])]))) (c := cVar 3)
    (List.range (w.length + 1)) (fun (i : Nat) => PyData.int (i : Int)) (e1_ w) (fun (i : Nat) => PyData.int (i : Int))
    (it_v (ow := .f) (d := .int ((w.length : Int) + 1)) (by
      generalize La (w ++ [46]) = L at *
      simp [hlen]) (i_R1 (n := w.length + 1) (by omega))) (by rw [s_lkv, s_lk0]) (by rw [List.length_range]; omega) (by simp) (fun i hi => by
      have hi := List.mem_range.mp hi
      have e1 := e1_t cl w i hw (by omega) [some (.f, str w), some (.f, str (La (w ++ [46]))), some (.f, .tuple (nums (atl w))), some (.f, .int (i : Int)), none] (.v (cOp fLen [.n 1])) [some (.f, .int ((w.length : Int) + 1))] 3 1 rfl rfl (by
        generalize La (w ++ [46]) = L at *
        simp [hlen]) rfl
      cases he : e1_ w i with
      | true =>
        rw [he] at e1
        generalize (i : Int) = ii at *
        generalize La (w ++ [46]) = L at *
        generalize nums (atl w) = A at *
        simp [-s_tOr, lcStep, e1]
      | false =>
        rw [he] at e1
        generalize (i : Int) = ii at *
        generalize La (w ++ [46]) = L at *
        generalize nums (atl w) = A at *
        simp [-s_tOr, lcStep, e1])
  have h2 := lc_step (cl := cl) (e := [some (.f, str w), some (.f, str (La (w ++ [46]))), some (.f, .tuple (nums (atl w))), none, some (.o, .list (nums ((List.range (w.length + 1)).filter (e1_ w))))]) (as := [.n 4]) (f := itV) (tg := .n 3) (own := [3]) (t := ctB (cOp (fEqM true) [.v (cOp fIx [.n 1, .n 3]), .v (cK (.str "."))])) (c := cOp fSub [.v (cOp fIx [.n 2, .n 3]), .v (cK (.int 1))])
    ((List.range (w.length + 1)).filter (e1_ w)) (fun (i : Nat) => PyData.int (i : Int)) (fun i => lk_ w i != 46) (fun i => PyData.int (((at_ w).getD i 0 - 1 : Nat) : Int))
    (it_n (x := (.o, .list (nums ((List.range (w.length + 1)).filter (e1_ w))))) rfl (by simp) (by rw [i_listV]; rfl)) (by simp; rfl) (by
      have := List.length_filter_le (e1_ w) (List.range (w.length + 1))
      rw [List.length_range] at this
      omega) (by simp) (fun i hi => by
      have hi := List.mem_range.mp (List.mem_filter.mp hi).1
      have f2 := lk_ix (w := w) (k := i) hw (by omega)
      have f4 := neS1 (a := lk_ w i) (b := 46)
      have a1 := at_ix (w := w) (k := i) (by omega)
      by_cases h46 : lk_ w i = 46
      · have hb : (lk_ w i != 46) = false := by simpa using h46
        rw [hb] at f4 ⊢
        clear h46 hb h
        generalize lk_ w i = y at *
        generalize (i : Int) = ii at *
        generalize La (w ++ [46]) = L at *
        generalize nums (atl w) = A at *
        generalize nums ((List.range (w.length + 1)).filter (e1_ w)) = B at *
        simp [lcStep, hd, f2, f4]
      · have hb : (lk_ w i != 46) = true := by simpa using h46
        have hpos := at_pos (w := w) (k := i) (by omega) h46
        have hsub : ((at_ w).getD i 0 : Int) - 1 = (((at_ w).getD i 0 - 1 : Nat) : Int) := by omega
        rw [hb] at f4 ⊢
        clear hb h46 h
        generalize lk_ w i = y at *
        generalize (((at_ w).getD i 0 - 1 : Nat) : Int) = g1 at *
        generalize ((at_ w).getD i 0 : Int) = g2 at *
        generalize (i : Int) = ii at *
        generalize La (w ++ [46]) = L at *
        generalize nums (atl w) = A at *
        generalize nums ((List.range (w.length + 1)).filter (e1_ w)) = B at *
        simp [lcStep, hd, f2, f4, a1, hsub])
  have e0 : ((List.range (w.length + 1)).filter (e1_ w)).map (fun (i : Nat) => PyData.int (i : Int)) = nums ((List.range (w.length + 1)).filter (e1_ w)) := rfl
  rw [e0] at h
  have e1 : (((List.range (w.length + 1)).filter (e1_ w)).filter (fun i => lk_ w i != 46)).map (fun i => PyData.int (((at_ w).getD i 0 - 1 : Nat) : Int)) = nums (EN w) := by
    rw [List.filter_filter, EN, nums_map]
    rfl
  rw [e1] at h2
  have hs := o_sortN (EN w) (by have := EN_len w; omega)
  rw [hd] at h2
  clear e1 e0
  generalize nums ((List.range (w.length + 1)).filter (e1_ w)) = N3 at *
  generalize nums (EN w) = N1 at *
  generalize nums (srt leN (EN w)) = N2 at *
  generalize nums (atl w) = A at *
  generalize La (w ++ [46]) = L at *
  simp [-s_tOr, c14, hd, c0, c1, h, h2, hs]
theorem sp26 (k : Nat) (hk : 1 ≤ k) (w x : List Nat) (hw : w.length ≤ 5000) (hx : x.length ≤ 5000) : clN tab k 26 [(.f, str w), (.f, str x)] = .ok ((.f, .tuple (nums ((List.range w.length).filter fun i => (w.drop i).take x.length == x))), []) := by
  obtain ⟨n, rfl⟩ : ∃ n, k = n + 1 := ⟨k - 1, by omega⟩
  rw [clN_go (rfl : tab 26 = some ⟨2, 3, [], noEx c26⟩) rfl]
  generalize clN tab n = cl at *
  have hwl := o_len (l := w) (by omega)
  have hxl := o_len (l := x) (by omega)
  have h := lc_step (cl := cl) (e := [some (.f, str w), some (.f, str x), none]) (as := [.v (cOp fLen [.n 0])]) (f := itR1) (tg := .n 2) (own := [2]) (t := ctB (cOp (fEqM false) [.v (cOp fSlAB [.n 0, .v (cInt (cVar 2)), .v (cInt (cOp fAdd [.n 2, .v (cOp fLen [.n 1])]))]), .n 1])) (c := cVar 2)
    (List.range w.length) (fun (i : Nat) => PyData.int (i : Int)) (fun i => (w.drop i).take x.length == x) (fun (i : Nat) => PyData.int (i : Int))
    (it_v (ow := .f) (d := .int (w.length : Int)) (by simp [hwl]) (i_R1 (n := w.length) (by omega))) (by rw [s_lkv, s_lk0]) (by rw [List.length_range]; omega) (by simp) (fun i hi => by
      have q1 : fSlAB [str w, .int (i : Int), .int ((i : Int) + (x.length : Int))] = some (.f, str ((w.drop i).take x.length)) := by
        rw [show (i : Int) + (x.length : Int) = ((i + x.length : Nat) : Int) by omega, o_slAB (by omega), Nat.add_sub_cancel_left]
      by_cases he : (w.drop i).take x.length = x
      · have q2 := eqS_t he
        have q3 : ((w.drop i).take x.length == x) = true := by simpa using he
        simp only [q3, if_true]
        clear he q3
        generalize (w.drop i).take x.length = y at *
        generalize (x.length : Int) = a at *
        simp [lcStep, q1, q2, hxl]
      · have q2 := eqS_f he
        have q3 : ((w.drop i).take x.length == x) = false := by simpa using he
        simp only [q3]
        clear he q3
        generalize (w.drop i).take x.length = y at *
        generalize (x.length : Int) = a at *
        simp [lcStep, q1, q2, hxl])
  have e1 : ((List.range w.length).filter (fun i => (w.drop i).take x.length == x)).map (fun (i : Nat) => PyData.int (i : Int)) = nums ((List.range w.length).filter (fun i => (w.drop i).take x.length == x)) := rfl
  rw [e1] at h
  generalize nums ((List.range w.length).filter (fun i => (w.drop i).take x.length == x)) = N at *
  clear e1
  simp [c26, h]
end G
end

section
set_option Elab.async false
set_option linter.all false
set_option maxRecDepth 100000
set_option maxHeartbeats 1000000
namespace G
open PySem Ev
/-! The bag. -/
def zs (l : List Int) : List PyData := l.map PyData.int
def BagD (gs : List Int) (x mm : Int) : PyData := .list [.list (zs gs), .int x, .int mm]
theorem o_mulB {i j : Int} (h : 0 ≤ j) (h2 : j < 2147483648) : fMul [.int i, .int j] = some (.f, .int (i * j)) := o_mulI ⟨by omega, by omega⟩
theorem fm_nat (a : Int) {m : Nat} (h : 0 < m) : ∃ d : Nat, d < m ∧ a.fmod (m : Int) = (d : Int) := by
  have h0 : (0 : Int) < (m : Int) := by omega
  have h1 := Int.fmod_nonneg_of_pos a h0
  have h2 := Int.fmod_lt_of_pos a h0
  exact ⟨(a.fmod (m : Int)).toNat, by omega, by omega⟩
theorem o_powI {i j : Int} (h : 0 ≤ j) (h1 : j ≤ 1000000) (h2 : i.natAbs < 2 ^ 64) : fPow [.int i, .int j] = some (.f, .int (i ^ j.toNat)) := by
  show (if (decide (0 ≤ j) && decide (j ≤ 1000000) && decide (i.natAbs < 2 ^ 64)) = true then some (Ow.f, PyData.int (i ^ j.toNat)) else none) = _
  rw [if_pos]
  rw [Bool.and_eq_true, Bool.and_eq_true]
  exact ⟨⟨decide_eq_true h, decide_eq_true h1⟩, decide_eq_true h2⟩
theorem eqI_b (i j : Int) : ∃ b, fEqM false [.int i, .int j] = some (.f, .bool b) ∧ (b = true ↔ i = j) := by
  refine ⟨decide (i = j), ?_, decide_eq_true_iff⟩
  rw [o_eqI]
  simp
theorem gtI_b (i j : Int) : ∃ b, fGt [.int i, .int j] = some (.f, .bool b) ∧ (b = true ↔ j < i) := ⟨decide (j < i), o_gtI, decide_eq_true_iff⟩
theorem sp16 (k : Nat) (hk : 1 ≤ k) (gs : List Int) (x mm : Int) (mi : Int) (m : Nat) (hmi : mi = (m : Int)) (h0 : 0 < m) (h1 : m ≤ 100000) : ∃ gs' x' mm' d, d < m ∧ clN tab k 16 [(.b, BagD gs x mm), (.f, .int mi)] = .ok ((.f, .int (d : Nat)), [(.b, BagD gs' x' mm')]) := by
  obtain ⟨n, rfl⟩ : ∃ n, k = n + 1 := ⟨k - 1, by omega⟩
  subst hmi
  -- the first step
  obtain ⟨gs1, x1, hst⟩ : ∃ gs1 x1, (cIf (ctAnd (ctB (cOp (fEqM false) [.v (cIxN fIx 0 1), .v (cK (.int 0))])) (ctB (cIxNil (fEqM true) fIx 0 true))) (cSet seL 0 (.v (cK (.int 1))) (cPop0 0)) cNx) (clN tab n) [some (.b, BagD gs x mm), some (.f, .int (m : Int)), none] = .ok ([some (.b, BagD gs1 x1 mm), some (.f, .int (m : Int)), none], .nx) := by
    obtain ⟨b, hb, _⟩ := eqI_b x 0
    generalize clN tab n = cl
    cases b with
    | false => exact ⟨gs, x, by simp [BagD, hb]⟩
    | true =>
      rcases List.eq_nil_or_concat gs with rfl | ⟨gs0, g, rfl⟩
      · exact ⟨[], x, by simp [BagD, hb, zs]⟩
      · have ie : (List.map PyData.int gs0 ++ [PyData.int g]).isEmpty = false := by cases gs0 <;> rfl
        exact ⟨gs0, g, by simp [BagD, hb, zs, ie]⟩
  have hm : (m : Int) ≠ 0 := by omega
  have hmod : ∀ a : Int, fMod [.int a, .int (m : Int)] = some (.f, .int (a.fmod m)) := fun a => o_modI hm
  by_cases hx : 0 < x1
  · have hx' : fGt [.int x1, .int 0] = some (.f, .bool true) := by rw [o_gtI, decide_eq_true hx]
    obtain ⟨d, hd, hd'⟩ := fm_nat x1 h0
    have hdiv : fFdiv [.int x1, .int (m : Int)] = some (.f, .int (x1.fdiv m)) := o_fdivI hm (by omega)
    refine ⟨gs1, x1.fdiv m, mm, d, hd, ?_⟩
    rw [clN_go (rfl : tab 16 = some ⟨2, 3, [0], noEx c16⟩) rfl]
    have hmd := hmod x1
    rw [hd'] at hmd
    generalize clN tab n = cl at *
    simp only [c16, s_sq, List.map_cons, List.map_nil, List.cons_append, List.nil_append, List.replicate, hst, s_bind]
    simp [-o_gtI, BagD, hx', hmd, hdiv]
  · have hx' : fGt [.int x1, .int 0] = some (.f, .bool false) := by rw [o_gtI, decide_eq_false hx]
    have q1 : fMul [.int mm, .int 48271] = some (.f, .int (mm * 48271)) := o_mulB (by decide) (by decide)
    have q2 : fMod [.int (mm * 48271 + 11), .int 2147483647] = some (.f, .int ((mm * 48271 + 11).fmod 2147483647)) := o_modI (by decide)
    have b1 := Int.fmod_nonneg_of_pos (mm * 48271 + 11) (b := 2147483647) (by decide)
    have b2 := Int.fmod_lt_of_pos (mm * 48271 + 11) (b := 2147483647) (by decide)
    generalize (mm * 48271 + 11).fmod 2147483647 = u at *
    have q3 : fMul [.int u, .int u] = some (.f, .int (u * u)) := o_mulB b1 (by omega)
    have q4 : fMod [.int (u * u), .int 2147483629] = some (.f, .int ((u * u).fmod 2147483629)) := o_modI (by decide)
    generalize (u * u).fmod 2147483629 = v at *
    have q5 : fFdiv [.int v, .int 7] = some (.f, .int (v.fdiv 7)) := o_fdivI (by decide) (by decide)
    obtain ⟨d, hd, hd'⟩ := fm_nat (v.fdiv 7) h0
    have hmd := hmod (v.fdiv 7)
    rw [hd'] at hmd
    refine ⟨gs1, x1, u, d, hd, ?_⟩
    rw [clN_go (rfl : tab 16 = some ⟨2, 3, [0], noEx c16⟩) rfl]
    generalize clN tab n = cl at *
    simp only [c16, s_sq, List.map_cons, List.map_nil, List.cons_append, List.nil_append, List.replicate, hst, s_bind]
    simp [-o_gtI, BagD, hx', hmd, q1, q2, q3, q4, q5]
theorem sp17s (k : Nat) (hk : 2 ≤ k) (gs : List Int) (x mm : Int) (l : List Nat) (hl : l ≠ []) (h1 : l.length ≤ 100000) : ∃ gs' x' mm' c, c ∈ l ∧ clN tab k 17 [(.b, BagD gs x mm), (.f, str l)] = .ok ((.f, str [c]), [(.b, BagD gs' x' mm')]) := by
  obtain ⟨n, rfl⟩ : ∃ n, k = n + 1 := ⟨k - 1, by omega⟩
  obtain ⟨g1, x1, m1, d, hd, E⟩ := sp16 n (by omega) gs x mm (l.length : Int) l.length rfl (List.length_pos_iff.mpr hl) h1
  have hll := o_len (l := l) (by omega)
  have hix := o_ixS (l := l) (i := (d : Int)) (by omega)
  rw [atI_nat, List.getElem?_eq_getElem hd] at hix
  refine ⟨g1, x1, m1, l[d], List.getElem_mem _, ?_⟩
  rw [clN_go (rfl : tab 17 = some ⟨2, 2, [0], noEx c17⟩) rfl]
  generalize l[d] = c at *
  generalize clN tab n = cl at *
  generalize (l.length : Int) = ll at *
  simp [c17, hll, E, hix]
theorem sp17l (k : Nat) (hk : 2 ≤ k) (gs : List Int) (x mm : Int) (l : List PyData) (hl : l ≠ []) (h1 : l.length ≤ 100000) : ∃ gs' x' mm' c, c ∈ l ∧ clN tab k 17 [(.b, BagD gs x mm), (.f, .list l)] = .ok ((.f, c), [(.b, BagD gs' x' mm')]) := by
  obtain ⟨n, rfl⟩ : ∃ n, k = n + 1 := ⟨k - 1, by omega⟩
  obtain ⟨g1, x1, m1, d, hd, E⟩ := sp16 n (by omega) gs x mm (l.length : Int) l.length rfl (List.length_pos_iff.mpr hl) h1
  have hll : fLen [.list l] = some (.f, .int (l.length : Int)) := o_lenL
  have hix : fIx [.list l, .int (d : Int)] = some (.f, l[d]) := by
    rw [o_ixL, atI_nat, List.getElem?_eq_getElem hd]
    rfl
  refine ⟨g1, x1, m1, l[d], List.getElem_mem _, ?_⟩
  rw [clN_go (rfl : tab 17 = some ⟨2, 2, [0], noEx c17⟩) rfl]
  generalize l[d] = c at *
  generalize clN tab n = cl at *
  generalize (l.length : Int) = ll at *
  simp [-o_lenL, -o_ixL, c17, hll, E, hix]
def fr (z : Option Vl) : Prop := z = none ∨ ∃ d, z = some (.f, d)
theorem fr.nl {z : Option Vl} (h : fr z) : nl z = true := by
  rcases h with rfl | ⟨d, rfl⟩ <;> rfl
theorem sp15 (k : Nat) (hk : 1 ≤ k) (ns : List Int) (hn : ns.length ≤ 63) : ∃ gs x mm, clN tab k 15 [(.f, .list (zs ns))] = .ok ((.b, BagD gs x mm), []) := by
  obtain ⟨n, rfl⟩ : ∃ n, k = n + 1 := ⟨k - 1, by omega⟩
  rw [clN_go (rfl : tab 15 = some ⟨1, 4, [], noEx c15⟩) rfl]
  generalize clN tab n = cl at *
  obtain ⟨P, hP, hS⟩ : ∃ P : Int, P ≠ 0 ∧ fShl [.int 1, .int 600] = some (.f, .int P) := by
    refine ⟨1 * 2 ^ (600 : Int).toNat, ?_, o_shlI (by decide) (by decide) (by decide)⟩
    have : (0 : Int) < 2 ^ (600 : Int).toNat := Int.pow_pos (by decide)
    omega
  obtain ⟨Q, hQ⟩ : ∃ Q : Int, fPow [.int 10, .int 9] = some (.f, .int Q) := ⟨_, o_powI (by decide) (by decide) (by decide)⟩
  have hsl : fSlB [.list (zs ns), .int 63] = some (.o, .list (zs (ns.take 63))) := by
    have := o_slBL (l := zs ns) (b := 63)
    rw [show (zs ns).take 63 = zs (ns.take 63) from (List.map_take ..).symm] at this
    exact this
  have h1 := lc_all (cl := cl) (e := [some (.f, .list (zs ns)), none, none, none]) (as := [.v (cOp fSlB [.n 0, .v (cInt (cK (.int 63)))])]) (f := itV) (tg := .n 1) (own := [1]) (c := cOp fMod [.v (cOp fInt [.v (cOp fAbs [.n 1])]), .v (cOp fShl [.v (cK (.int 1)), .v (cK (.int 600))])]) (ns.take 63) PyData.int (fun a => PyData.int ((if a < 0 then -a else a).fmod P))
    (it_v (ow := .o) (d := .list (zs (ns.take 63))) (by
      generalize zs (ns.take 63) = Z at *
      generalize zs ns = Y at *
      simp [hsl]) (by rw [i_listV]; rfl)) (by rw [s_lkv, s_lk0]) (by rw [List.length_take]; omega) (by simp) (fun a ha => by
      have hab : fAbs [.int a] = some (.f, .int (if a < 0 then -a else a)) := o_abs
      generalize (if a < 0 then -a else a) = a' at *
      have q0 : fMod [.int a', .int P] = some (.f, .int (a'.fmod P)) := o_modI hP
      generalize a'.fmod P = u at *
      generalize zs ns = Z at *
      simp [-o_abs, lcStep, hab, hS, q0])
  have e1 : (ns.take 63).map (fun a => PyData.int ((if a < 0 then -a else a).fmod P)) = zs ((ns.take 63).map fun a => (if a < 0 then -a else a).fmod P) := by
    rw [zs, List.map_map]
    rfl
  rw [e1] at h1
  have hlen : ((ns.take 63).map fun a => (if a < 0 then -a else a).fmod P).length ≤ 63 := by
    rw [List.length_map, List.length_take]
    omega
  generalize ((ns.take 63).map fun a => (if a < 0 then -a else a).fmod P) = L at *
  obtain ⟨e', ⟨mix, z1, hz1, rfl⟩, hf⟩ := forL_inv (cl := cl) (tg := .n 1) (body := (cAsg 3 (cOp fMod [.v (cOp fInt [.v (cOp fAdd [.v (cOp fAdd [.v (cOp fMul [.n 3, .v (cK (.int 48271))]), .v (cOp fMod [.v (cOp fInt [.n 1]), .v (cK (.int 2147483629))])]), .v (cK (.int 7))])]), .v (cK (.int 2147483647))]))) PyData.int
    (fun _ e => ∃ mix z1, fr z1 ∧ e = [some (.f, .list (zs ns)), z1, some (.l, .list (zs L)), some (.f, .int mix)]) (by
      rintro a r e ⟨mix, z1, hz1, rfl⟩
      refine ⟨_, by simp [hz1.nl]; rfl, ?_⟩
      have q1 : fMul [.int mix, .int 48271] = some (.f, .int (mix * 48271)) := o_mulB (by decide) (by decide)
      have q2 : fMod [.int a, .int 2147483629] = some (.f, .int (a.fmod 2147483629)) := o_modI (by decide)
      generalize a.fmod 2147483629 = u2 at *
      have q3 : fMod [.int (mix * 48271 + u2 + 7), .int 2147483647] = some (.f, .int ((mix * 48271 + u2 + 7).fmod 2147483647)) := o_modI (by decide)
      refine ⟨[some (.f, .list (zs ns)), some (.f, .int a), some (.l, .list (zs L)), some (.f, .int ((mix * 48271 + u2 + 7).fmod 2147483647))], ?_, ⟨_, _, .inr ⟨_, rfl⟩, rfl⟩⟩
      generalize (mix * 48271 + u2 + 7).fmod 2147483647 = mix' at *
      generalize zs ns = Z at *
      generalize zs L = Z' at *
      simp [q1, q2, q3]) L [some (.f, .list (zs ns)), none, some (.l, .list (zs L)), some (.f, .int (2468 + ((zs L).length : Int)))] ⟨_, none, .inl rfl, rfl⟩
  have hF := for_o (cl := cl) (e := [some (.f, .list (zs ns)), none, some (.o, .list (zs L)), some (.f, .int (2468 + ((zs L).length : Int)))]) (i := 2) (f := itV) (d := .list (zs L)) rfl (by rw [i_listV]; rfl) hf rfl
  have h2 := lc_step (cl := cl) (e := [some (.f, .list (zs ns)), z1, some (.o, .list (zs L)), some (.f, .int mix)]) (as := [.v (cOp fListS [.n 2])]) (f := itRvL) (tg := .n 1) (own := [1]) (t := ctB (cOp fGt [.n 1, .v (cOp fPow [.v (cK (.int 10)), .v (cK (.int 9))])])) (c := cVar 1) L.reverse PyData.int (fun a => decide (Q < a)) PyData.int
    (it_v (ow := .o) (d := .list (zs L)) (by
      generalize zs L = Z at *
      simp) (by rw [i_rv, zs, List.map_reverse])) (by rw [s_lkv, s_lk0]) (by rw [List.length_reverse]; omega) (by
      rcases hz1 with rfl | ⟨d, rfl⟩ <;> simp) (fun a ha => by
      have hg : fGt [.int a, .int Q] = some (.f, .bool (decide (Q < a))) := o_gtI
      cases hd : decide (Q < a) with
      | true =>
        rw [hd] at hg
        generalize zs L = Z at *
        generalize zs ns = Z' at *
        simp [-o_gtI, lcStep, hQ, hg]
      | false =>
        rw [hd] at hg
        generalize zs L = Z at *
        generalize zs ns = Z' at *
        simp [-o_gtI, lcStep, hQ, hg])
  refine ⟨(L.reverse.filter fun a => decide (Q < a)), 0, mix, ?_⟩
  have e2 : (L.reverse.filter fun a => decide (Q < a)).map PyData.int = zs (L.reverse.filter fun a => decide (Q < a)) := rfl
  rw [e2] at h2
  unfold BagD
  generalize zs (L.reverse.filter fun a => decide (Q < a)) = ZZ at *
  generalize zs L = Z at *
  generalize zs ns = Z' at *
  simp only [c15, s_sq, s_asg, h1, List.map_cons, List.map_nil, List.cons_append, List.nil_append, List.replicate, s_bind, s_asgN, s_gt0, s_gtS, nl_n, if_true, s_st0, s_stS]
  simp [hF, h2]
end G
end

section
set_option Elab.async false
set_option linter.all false
set_option maxRecDepth 100000
set_option maxHeartbeats 1000000
namespace Ev
open PySem
/-- a comprehension whose elements change slots: what holds of each, what stays -/
theorem lcL_ex {cl : Cl} {tg : Tg} {own : List Nat} {c : CE} {α : Type} (k : α → PyData) (Pq : PyData → Prop) (S : En → Prop)
    (h : ∀ e a, S e → ∃ e1, tgSet tg (k a) (wipeE own e) = some e1 ∧ ∃ e3 ow d, c cl e1 = .ok (e3, ow, d) ∧ Pq d ∧ S e3) :
    ∀ (as : List α) (e : En) (acc : List PyData), S e → ∃ e' ds, S e' ∧ ds.length = as.length ∧ (∀ d ∈ ds, Pq d) ∧ lcL tg own ctYes c cl (as.map k) e acc = .ok (e', acc ++ ds)
  | [], e, acc, hs => ⟨e, [], hs, rfl, (fun _ h => by cases h), by simp [lcL]⟩
  | a :: as, e, acc, hs => by
    obtain ⟨e1, h1, e3, ow, d, h2, h3, h4⟩ := h e a hs
    obtain ⟨e', ds, g1, g2, g3, g4⟩ := lcL_ex k Pq S h as e3 (acc ++ [d]) h4
    refine ⟨e', d :: ds, g1, by simp [g2], fun x hx => ?_, ?_⟩
    · rcases List.mem_cons.mp hx with rfl | hx
      · exact h3
      · exact g3 x hx
    · rw [List.map_cons, lcL, h1]
      simp only [s_yes, s_bind, h2, g4]
      simp
theorem lc_ex {cl : Cl} {e e1 : En} {c0 : CE} {f : List PyData → Option (List PyData)} {tg : Tg} {own : List Nat} {c : CE} {α : Type} (xs : List α) (k : α → PyData) (Pq : PyData → Prop) (S : En → Prop)
    (hr : itRun ⟨[.v c0], f⟩ cl e = .ok (e1, xs.map k)) (hn : xs.length ≤ 16777216) (ho : ownFz own e1 = true) (hS : S e1)
    (h : ∀ e a, S e → ∃ e1, tgSet tg (k a) (wipeE own e) = some e1 ∧ ∃ e3 ow d, c cl e1 = .ok (e3, ow, d) ∧ Pq d ∧ S e3) :
    ∃ e2 ds, S e2 ∧ ds.length = xs.length ∧ (∀ d ∈ ds, Pq d) ∧ cLC ⟨[.v c0], f⟩ tg own ctYes c cl e = .ok (backE own e1 e2, .o, .list ds) := by
  obtain ⟨e2, ds, g1, g2, g3, g4⟩ := lcL_ex k Pq S h xs e1 [] hS
  refine ⟨e2, ds, g1, g2, g3, ?_⟩
  unfold cLC
  rw [hr]
  simp only [s_bind, s_lkv, s_lk0]
  rw [if_pos ⟨by simpa [sizeLine] using hn, ho⟩]
  simp only [g4, List.nil_append, s_ulv, s_ul0]
end Ev
namespace G
open PySem Ev
def Abc (w : List Nat) : Prop := ∀ c ∈ w, 97 ≤ c ∧ c ≤ 100
theorem Abc.app {a b : List Nat} (h : Abc a) (h' : Abc b) : Abc (a ++ b) := fun c hc => (List.mem_append.mp hc).elim (h c) (h' c)
theorem Abc.one {c : Nat} (h : 97 ≤ c ∧ c ≤ 100) : Abc [c] := fun d hd => by simp at hd; rw [hd]; exact h
theorem Abc.drop {a : List Nat} (h : Abc a) (k : Nat) : Abc (a.drop k) := fun c hc => h c (List.drop_subset _ _ hc)
theorem Abc.take {a : List Nat} (h : Abc a) (k : Nat) : Abc (a.take k) := fun c hc => h c (List.take_subset _ _ hc)
theorem Abc.rep {a : List Nat} (h : Abc a) (k : Nat) : Abc (List.replicate k a).flatten := fun c hc => by
  obtain ⟨l, hl, hc⟩ := List.mem_flatten.mp hc
  rw [List.eq_of_mem_replicate hl] at hc
  exact h c hc
theorem Abc.gt {w : List Nat} (h : Abc w) : ∀ c ∈ w, 46 < c := fun c hc => by have := h c hc; omega
theorem Abc.lt {w : List Nat} (h : Abc w) : ∀ c ∈ w, c < 0x110000 := fun c hc => by have := h c hc; omega
theorem Abc.both {w : List Nat} (h : Abc w) : ∀ c ∈ w, 46 < c ∧ c < 0x110000 := fun c hc => by have := h c hc; omega
theorem abcB (l : List Nat) (h : (l.all fun c => decide (97 ≤ c) && decide (c ≤ 100)) = true) : Abc l := by
  intro c hc
  have := List.all_eq_true.mp h c hc
  simpa using this
theorem rep_len (k : Nat) (a : List Nat) : (List.replicate k a).flatten.length = k * a.length := by
  induction k with
  | zero => simp
  | succ k ih => rw [List.replicate_succ, List.flatten_cons, List.length_append, ih, Nat.succ_mul]; omega
def OneL (d : PyData) : Prop := ∃ c, d = str [c] ∧ 97 ≤ c ∧ c ≤ 100
theorem ones : ∀ {ds : List PyData}, (∀ d ∈ ds, OneL d) → ∃ ls : List Nat, ds = (ls.map fun c => str [c]) ∧ Abc ls ∧ ls.length = ds.length
  | [], _ => ⟨[], rfl, fun c hc => by simp at hc, rfl⟩
  | d :: ds, h => by
    obtain ⟨c, rfl, h1⟩ := h d (List.mem_cons_self ..)
    obtain ⟨ls, e, a, l⟩ := ones fun x hx => h x (List.mem_cons_of_mem _ hx)
    exact ⟨c :: ls, by rw [e]; rfl, fun x hx => (List.mem_cons.mp hx).elim (fun q => q ▸ h1) (a x), by simp [l]⟩
def q20a : CS := (cIf (ctB (cOp (fEqM false) [.n 3, .v (cK (.int 1))])) (cFor ⟨[.v (cK (.int 10))], itR1⟩ (.n 6) (cSq (cAsg 7 (cCall 16 [(0, 0)] [.n 0, .v (cOp fLen [.n 5])]))
  (cAsg 5 (cOp fAdd [.v (cOp fAdd [.n 5, .v (cOp fSlAB [.n 5, .v (cInt (cVar 7)), .v (cInt (cOp fAdd [.v (cOp fAdd [.n 7, .v (cK (.int 1))]), .v (cCall 16 [(0, 0)] [.n 0, .v (cK (.int 12))])]))])]), .v (cCall 17 [(0, 0)] [.n 0, .v (cVar 2)])])))) cNx)
def q20b : CS := (cIf (ctB (cOp (fEqM false) [.n 3, .v (cK (.int 2))])) (cSq (cPar [8, 9] [(cVar 5), (cCall 17 [(0, 0)] [.n 0, .v (cVar 2)])])
  (cSq (cFor ⟨[.v (cK (.int 6))], itR1⟩ (.n 6) (cPar [8, 9] [(cOp fAdd [.n 8, .n 9]), (cVar 8)]))
  (cAsg 5 (cVar 8)))) cNx)
def q20c : CS := (cIf (ctAnd (ctB (cOp (fEqM false) [.n 3, .v (cK (.int 3))])) (ctB (cOp fGt [.n 1, .v (cK (.int 0))]))) (cSq (cAsg 4 (cCall 16 [(0, 0)] [.n 0, .v (cVar 1)]))
  (cAsg 10 (cOp fAdd [.v (cOp fAdd [.v (cOp fSlB [.n 10, .v (cInt (cVar 4))]), .v (cCall 17 [(0, 0)] [.n 0, .v (cK (.str "abcd"))])]), .v (cOp fSlA [.n 10, .v (cInt (cOp fAdd [.n 4, .v (cK (.int 1))]))])]))) cNx)
theorem c20_eq : c20 = (cSq (cAsg 1 (cCall 17 [(0, 0)] [.n 0, .v (cLst [(cK (.int 60)), (cK (.int 60)), (cK (.int 59)), (cCall 16 [(0, 0)] [.n 0, .v (cK (.int 14))]), (cCall 16 [(0, 0)] [.n 0, .v (cK (.int 61))]), (cOp fSub [.v (cOp fSub [.v (cK (.int 61)), .v (cK (.int 1))]), .v (cCall 16 [(0, 0)] [.n 0, .v (cK (.int 20))])])])]))
  (cSq (cUnp (.t [(.n 2), (.n 3)]) (cTup [(cCall 17 [(0, 0)] [.n 0, .v (cLst [(cK (.str "ab")), (cK (.str "ab")), (cK (.str "abc")), (cK (.str "abcd")), (cK (.str "bd")), (cK (.str "cd")), (cK (.str "a")), (cK (.str "acd"))])]), (cCall 16 [(0, 0)] [.n 0, .v (cK (.int 6))])]))
  (cSq (cAsg 5 (cMeth isStr fJoin (.v (cK (.str ""))) [.v (cLC ⟨[.v (cIfE (ctB (cOp (fEqM false) [.n 3, .v (cK (.int 0))])) (cVar 1) (cOp fAdd [.v (cK (.int 1)), .v (cCall 16 [(0, 0)] [.n 0, .v (cK (.int 9))])]))], itR1⟩ (.n 4) [4] ctYes (cCall 17 [(0, 0)] [.n 0, .v (cVar 2)]))]))
  (cSq q20a
  (cSq q20b
  (cSq (cAsg 10 (cOp fSlB [.v (cOp fMul [.n 5, .v (cK (.int 60))]), .v (cInt (cVar 1))]))
  (cSq q20c
  (cMov 10)))))))) := rfl
def bd20 : CS := (cSq (cAsg 7 (cCall 16 [(0, 0)] [.n 0, .v (cOp fLen [.n 5])]))
  (cAsg 5 (cOp fAdd [.v (cOp fAdd [.n 5, .v (cOp fSlAB [.n 5, .v (cInt (cVar 7)), .v (cInt (cOp fAdd [.v (cOp fAdd [.n 7, .v (cK (.int 1))]), .v (cCall 16 [(0, 0)] [.n 0, .v (cK (.int 12))])]))])]), .v (cCall 17 [(0, 0)] [.n 0, .v (cVar 2)])])))
def bd20b : CS := (cPar [8, 9] [(cOp fAdd [.n 8, .n 9]), (cVar 8)])
def W20 (b : PyData) (lg : Int) (sm : List Nat) (wy : Int) (z4 : Option Vl) (rt : List Nat) (z6 z7 z8 z9 z10 : Option Vl) : En := [some (.b, b), some (.f, .int lg), some (.f, str sm), some (.f, .int wy), z4, some (.f, str rt), z6, z7, z8, z9, z10]
theorem st20a (k : Nat) (hk : 2 ≤ k) (gs : List Int) (x mm lg : Int) (sm : List Nat) (hsm : sm ≠ []) (asm : Abc sm) (hsl : sm.length ≤ 4) (wy : Int) (rt : List Nat) (hrt : wy = 1 → rt ≠ []) (art : Abc rt) (hrl : rt.length ≤ 60) :
    ∃ gs' x' mm' rt' z6 z7, nl z6 = true ∧ nl z7 = true ∧ Abc rt' ∧ rt'.length ≤ 190 ∧ q20a (clN tab k) (W20 (BagD gs x mm) lg sm wy none rt none none none none none) = .ok (W20 (BagD gs' x' mm') lg sm wy none rt' z6 z7 none none none, .nx) := by
  obtain ⟨b, hb, hbi⟩ := eqI_b wy 1
  cases b with
  | false =>
    refine ⟨gs, x, mm, rt, none, none, rfl, rfl, art, by omega, ?_⟩
    generalize clN tab k = cl at *
    simp [q20a, W20, hb]
  | true =>
    have hrt := hrt (hbi.mp rfl)
    obtain ⟨e', ⟨gs', x', mm', rt', z6, z7, h6, h7, g1, g2, g3, rfl⟩, hf⟩ := forL_inv (cl := clN tab k) (tg := .n 6) (body := bd20) (fun (i : Nat) => PyData.int (i : Int))
      (fun r e => ∃ gs x mm rt z6 z7, nl z6 = true ∧ nl z7 = true ∧ rt ≠ [] ∧ Abc rt ∧ rt.length + 13 * r.length ≤ 190 ∧ e = W20 (BagD gs x mm) lg sm wy none rt z6 z7 none none none) (by
        rintro a r e ⟨gs, x, mm, rt, z6, z7, h6, h7, hrt, art, hrl, rfl⟩
        simp at hrl
        refine ⟨W20 (BagD gs x mm) lg sm wy none rt (some (.f, .int (a : Int))) z7 none none none, by simp [W20, h6], ?_⟩
        obtain ⟨g1, x1, m1, f, hf, E1⟩ := sp16 k (by omega) gs x mm (rt.length : Int) rt.length rfl (List.length_pos_iff.mpr hrt) (by omega)
        obtain ⟨g2, x2, m2, d, hd, E2⟩ := sp16 k (by omega) g1 x1 m1 12 12 rfl (by omega) (by omega)
        obtain ⟨g3, x3, m3, c, hc, E3⟩ := sp17s k (by omega) g2 x2 m2 sm hsm (by omega)
        have hlen := o_len (l := rt) (by omega)
        have q1 : fSlAB [str rt, .int (f : Int), .int ((f : Int) + 1 + (d : Int))] = some (.f, str ((rt.drop f).take (f + 1 + d - f))) := by
          rw [show (f : Int) + 1 + (d : Int) = ((f + 1 + d : Nat) : Int) by omega]
          exact o_slAB (by omega)
        have hl1 : ((rt.drop f).take (f + 1 + d - f)).length ≤ 12 := by rw [List.length_take]; omega
        have q2 := o_addS (a := rt) (b := (rt.drop f).take (f + 1 + d - f)) (by omega)
        have q3 := o_addS (a := rt ++ (rt.drop f).take (f + 1 + d - f)) (b := [c]) (by simp; omega)
        refine ⟨W20 (BagD g3 x3 m3) lg sm wy none (rt ++ (rt.drop f).take (f + 1 + d - f) ++ [c]) (some (.f, .int (a : Int))) (some (.f, .int (f : Int))) none none none, ?_, ⟨g3, x3, m3, _, _, _, rfl, rfl, by simp, ((art.app ((art.drop f).take _)).app (Abc.one (asm c hc))), by simp; omega, rfl⟩⟩
        generalize rt ++ (rt.drop f).take (f + 1 + d - f) ++ [c] = u at *
        generalize rt ++ (rt.drop f).take (f + 1 + d - f) = v at *
        generalize (rt.drop f).take (f + 1 + d - f) = t at *
        generalize clN tab k = cl at *
        generalize (rt.length : Int) = rl at *
        generalize (f : Int) = ff at *
        generalize (d : Int) = dd at *
        simp [bd20, W20, hlen, E1, E2, E3, q1, q2, q3, h7])
      (List.range 10) (W20 (BagD gs x mm) lg sm wy none rt none none none none none) ⟨gs, x, mm, rt, none, none, rfl, rfl, hrt, art, by simp; omega, rfl⟩
    have hF := for_v (cl := clN tab k) (c := cK (.int 10)) (f := itR1) (it_v (e := W20 (BagD gs x mm) lg sm wy none rt none none none none none) (ow := .f) (d := .int 10) rfl (i_R1 (n := 10) (by omega))) hf
    refine ⟨gs', x', mm', rt', z6, z7, h6, h7, g2, by simpa using g3, ?_⟩
    unfold bd20 W20 at hF
    generalize clN tab k = cl at *
    simp [q20a, W20, hb, hF]
theorem st20b (k : Nat) (hk : 2 ≤ k) (gs : List Int) (x mm lg : Int) (sm : List Nat) (hsm : sm ≠ []) (asm : Abc sm) (hsl : sm.length ≤ 4) (wy : Int) (rt : List Nat) (z6 z7 : Option Vl) (h6 : nl z6 = true) (art : Abc rt) (hrl : rt.length ≤ 190) :
    ∃ gs' x' mm' rt' y6 z8 z9, Abc rt' ∧ rt'.length ≤ 20000 ∧ q20b (clN tab k) (W20 (BagD gs x mm) lg sm wy none rt z6 z7 none none none) = .ok (W20 (BagD gs' x' mm') lg sm wy none rt' y6 z7 z8 z9 none, .nx) := by
  obtain ⟨b, hb, _⟩ := eqI_b wy 2
  cases b with
  | false =>
    refine ⟨gs, x, mm, rt, z6, none, none, art, by omega, ?_⟩
    generalize clN tab k = cl at *
    simp [q20b, W20, hb]
  | true =>
    obtain ⟨g1, x1, m1, c, hc, E1⟩ := sp17s k (by omega) gs x mm sm hsm (by omega)
    obtain ⟨e', ⟨xs, ys, z6', _, k2, k3, k4, rfl⟩, hf⟩ := forL_inv (cl := clN tab k) (tg := .n 6) (body := bd20b) (fun (i : Nat) => PyData.int (i : Int))
      (fun r e => ∃ xs ys z6, nl z6 = true ∧ Abc xs ∧ Abc ys ∧ (xs.length + ys.length) * 2 ^ r.length ≤ 191 * 64 ∧ e = W20 (BagD g1 x1 m1) lg sm wy none rt z6 z7 (some (.f, str xs)) (some (.f, str ys)) none) (by
        rintro a r e ⟨xs, ys, z6, h6, k2, k3, k4, rfl⟩
        rw [List.length_cons, Nat.pow_succ] at k4
        have hp : 0 < 2 ^ r.length := Nat.pow_pos (by omega)
        have k5 : xs.length + ys.length ≤ (xs.length + ys.length) * (2 ^ r.length * 2) := Nat.le_mul_of_pos_right _ (by omega)
        refine ⟨W20 (BagD g1 x1 m1) lg sm wy none rt (some (.f, .int (a : Int))) z7 (some (.f, str xs)) (some (.f, str ys)) none, by simp [W20, h6], ?_⟩
        have q2 := o_addS (a := xs) (b := ys) (by omega)
        refine ⟨W20 (BagD g1 x1 m1) lg sm wy none rt (some (.f, .int (a : Int))) z7 (some (.f, str (xs ++ ys))) (some (.f, str xs)) none, ?_, ⟨_, _, _, rfl, k2.app k3, k2, ?_, rfl⟩⟩
        · generalize xs ++ ys = u at *
          generalize clN tab k = cl at *
          simp [bd20b, W20, q2]
        · have : ((xs ++ ys).length + xs.length) * 2 ^ r.length ≤ ((xs.length + ys.length) * 2) * 2 ^ r.length := Nat.mul_le_mul_right _ (by simp; omega)
          have e : (xs.length + ys.length) * (2 ^ r.length * 2) = ((xs.length + ys.length) * 2) * 2 ^ r.length := by rw [Nat.mul_comm (2 ^ r.length) 2, Nat.mul_assoc]
          omega)
      (List.range 6) (W20 (BagD g1 x1 m1) lg sm wy none rt z6 z7 (some (.f, str rt)) (some (.f, str [c])) none) ⟨rt, [c], z6, h6, art, Abc.one (asm c hc), by
        show (rt.length + 1) * 2 ^ 6 ≤ _
        omega, rfl⟩
    have hF := for_v (cl := clN tab k) (c := cK (.int 6)) (f := itR1) (it_v (e := W20 (BagD g1 x1 m1) lg sm wy none rt z6 z7 (some (.f, str rt)) (some (.f, str [c])) none) (ow := .f) (d := .int 6) rfl (i_R1 (n := 6) (by omega))) hf
    refine ⟨g1, x1, m1, xs, z6', some (.f, str xs), some (.f, str ys), k2, by
      have : (xs.length + ys.length) * 2 ^ 0 ≤ 191 * 64 := k4
      omega, ?_⟩
    unfold bd20b W20 at hF
    generalize clN tab k = cl at *
    simp [q20b, W20, hb, E1, hF]
theorem st20c (k : Nat) (hk : 2 ≤ k) (gs : List Int) (x mm : Int) (lg : Nat) (hlg : lg ≤ 60) (sm : List Nat) (wy : Int) (rt : List Nat) (z6 z7 z8 z9 : Option Vl) (tx : List Nat) (atx : Abc tx) (htl : tx.length ≤ 60) :
    ∃ gs' x' mm' tx' z4, Abc tx' ∧ tx'.length ≤ 60 ∧ q20c (clN tab k) (W20 (BagD gs x mm) (lg : Int) sm wy none rt z6 z7 z8 z9 (some (.f, str tx))) = .ok (W20 (BagD gs' x' mm') (lg : Int) sm wy z4 rt z6 z7 z8 z9 (some (.f, str tx')), .nx) := by
  have hd : PyData.str "abcd" = str [97, 98, 99, 100] := rfl
  obtain ⟨b, hb, _⟩ := eqI_b wy 3
  obtain ⟨b2, hb2, hb3⟩ := gtI_b (lg : Int) 0
  by_cases hbb : b = true ∧ b2 = true
  · obtain ⟨rfl, rfl⟩ := hbb
    have hpos : 0 < lg := by have := hb3.mp rfl; omega
    obtain ⟨g1, x1, m1, d, hdd, E1⟩ := sp16 k (by omega) gs x mm (lg : Int) lg rfl hpos (by omega)
    obtain ⟨g2, x2, m2, c, hc, E2⟩ := sp17s k (by omega) g1 x1 m1 [97, 98, 99, 100] (by simp) (by simp)
    have ac : 97 ≤ c ∧ c ≤ 100 := by
      simp at hc
      omega
    have q1 := o_slB (l := tx) (b := d) (by omega)
    have q2 : fSlA [str tx, .int ((d : Int) + 1)] = some (.f, str (tx.drop (d + 1))) := by
      rw [show (d : Int) + 1 = ((d + 1 : Nat) : Int) by omega]
      exact o_slA (by omega)
    have q3 := o_addS (a := tx.take d) (b := [c]) (by simp; omega)
    have q4 := o_addS (a := tx.take d ++ [c]) (b := tx.drop (d + 1)) (by simp; omega)
    refine ⟨g2, x2, m2, tx.take d ++ [c] ++ tx.drop (d + 1), some (.f, .int (d : Int)), ((atx.take d).app (Abc.one ac)).app (atx.drop (d + 1)), by simp; omega, ?_⟩
    generalize tx.take d ++ [c] ++ tx.drop (d + 1) = u1 at *
    generalize tx.take d ++ [c] = u2 at *
    generalize tx.drop (d + 1) = u3 at *
    generalize tx.take d = u4 at *
    generalize clN tab k = cl at *
    generalize (d : Int) = dd at *
    simp [-o_gtI, q20c, W20, hd, hb, hb2, E1, E2, q1, q2, q3, q4]
  · refine ⟨gs, x, mm, tx, none, atx, htl, ?_⟩
    generalize clN tab k = cl at *
    cases b <;> cases b2 <;> first | exact absurd ⟨rfl, rfl⟩ hbb | simp [-o_gtI, q20c, W20, hb, hb2]
end G
end

section
set_option Elab.async false
set_option linter.all false
set_option maxRecDepth 100000
set_option maxHeartbeats 1000000
namespace G
open PySem Ev
theorem st20_long (k : Nat) (hk : 2 ≤ k) (gs : List Int) (x mm : Int) : ∃ g3 x3 m3 g4 x4 m4 g1 x1 m1 g2 x2 m2 d1 d2 d3 lg, lg ≤ 60 ∧ clN tab k 16 [(.b, BagD gs x mm), (.f, .int 14)] = .ok ((.f, .int (d1 : Nat)), [(.b, BagD g1 x1 m1)]) ∧ clN tab k 16 [(.b, BagD g1 x1 m1), (.f, .int 61)] = .ok ((.f, .int (d2 : Nat)), [(.b, BagD g2 x2 m2)]) ∧ clN tab k 16 [(.b, BagD g2 x2 m2), (.f, .int 20)] = .ok ((.f, .int (d3 : Nat)), [(.b, BagD g3 x3 m3)]) ∧
    clN tab k 17 [(.b, BagD g3 x3 m3), (.f, .list [.int 60, .int 60, .int 59, .int (d1 : Nat), .int (d2 : Nat), .int (60 - (d3 : Int))])] = .ok ((.f, .int (lg : Nat)), [(.b, BagD g4 x4 m4)]) := by
  obtain ⟨g1, x1, m1, d1, h1, E1⟩ := sp16 k (by omega) gs x mm 14 14 rfl (by omega) (by omega)
  obtain ⟨g2, x2, m2, d2, h2, E2⟩ := sp16 k (by omega) g1 x1 m1 61 61 rfl (by omega) (by omega)
  obtain ⟨g3, x3, m3, d3, h3, E3⟩ := sp16 k (by omega) g2 x2 m2 20 20 rfl (by omega) (by omega)
  obtain ⟨g4, x4, m4, c, hc, E4⟩ := sp17l k hk g3 x3 m3 [.int 60, .int 60, .int 59, .int (d1 : Nat), .int (d2 : Nat), .int (60 - (d3 : Int))] (by simp) (by simp)
  have : ∃ lg : Nat, c = .int (lg : Int) ∧ lg ≤ 60 := by
    simp only [List.mem_cons, List.not_mem_nil, or_false] at hc
    rcases hc with rfl | rfl | rfl | rfl | rfl | rfl
    · exact ⟨60, rfl, by omega⟩
    · exact ⟨60, rfl, by omega⟩
    · exact ⟨59, rfl, by omega⟩
    · exact ⟨d1, rfl, by omega⟩
    · exact ⟨d2, rfl, by omega⟩
    · exact ⟨60 - d3, by congr 1; omega, by omega⟩
  obtain ⟨lg, rfl, hlg⟩ := this
  exact ⟨g3, x3, m3, g4, x4, m4, g1, x1, m1, g2, x2, m2, d1, d2, d3, lg, hlg, E1, E2, E3, E4⟩
theorem st20_some (k : Nat) (hk : 2 ≤ k) (gs : List Int) (x mm : Int) : ∃ g1 x1 m1 sm, sm ≠ [] ∧ Abc sm ∧ sm.length ≤ 4 ∧ clN tab k 17 [(.b, BagD gs x mm), (.f, .list [.str "ab", .str "ab", .str "abc", .str "abcd", .str "bd", .str "cd", .str "a", .str "acd"])] = .ok ((.f, str sm), [(.b, BagD g1 x1 m1)]) := by
  obtain ⟨g1, x1, m1, c, hc, E⟩ := sp17l k hk gs x mm [.str "ab", .str "ab", .str "abc", .str "abcd", .str "bd", .str "cd", .str "a", .str "acd"] (by simp) (by simp)
  have : ∃ sm, c = str sm ∧ sm ≠ [] ∧ Abc sm ∧ sm.length ≤ 4 := by
    simp only [List.mem_cons, List.not_mem_nil, or_false] at hc
    rcases hc with rfl | rfl | rfl | rfl | rfl | rfl | rfl | rfl
    · exact ⟨[97, 98], rfl, by simp, abcB _ rfl, by simp⟩
    · exact ⟨[97, 98], rfl, by simp, abcB _ rfl, by simp⟩
    · exact ⟨[97, 98, 99], rfl, by simp, abcB _ rfl, by simp⟩
    · exact ⟨[97, 98, 99, 100], rfl, by simp, abcB _ rfl, by simp⟩
    · exact ⟨[98, 100], rfl, by simp, abcB _ rfl, by simp⟩
    · exact ⟨[99, 100], rfl, by simp, abcB _ rfl, by simp⟩
    · exact ⟨[97], rfl, by simp, abcB _ rfl, by simp⟩
    · exact ⟨[97, 99, 100], rfl, by simp, abcB _ rfl, by simp⟩
  obtain ⟨sm, rfl, h1, h2, h3⟩ := this
  exact ⟨g1, x1, m1, sm, h1, h2, h3, E⟩
/-- letters picked, one by one, into a list -/
theorem lc_pick (k : Nat) (hk : 2 ≤ k) (e e1 : En) (c0 : CE) (m : Nat) (hm : m ≤ 1000) (sm : List Nat) (hsm : sm ≠ []) (asm : Abc sm) (hsl : sm.length ≤ 4) (cp : CE) (own : Nat) (mk : PyData → Option Vl → En)
    (hr : itRun ⟨[.v c0], itR1⟩ (clN tab k) e = .ok (e1, (List.range m).map fun (i : Nat) => PyData.int (i : Int)))
    (gs : List Int) (x mm : Int) (he1 : e1 = mk (BagD gs x mm) none) (hown : ∀ b z, gt (mk b z) own = z) (hst : ∀ b z y, st (mk b z) own y = mk b y)
    (hp : ∀ (cl : Cl) b b' z c, cl 17 [(.b, b), (.f, str sm)] = .ok ((.f, str [c]), [(.b, b')]) → cp cl (mk b z) = .ok (mk b' z, .f, str [c])) :
    ∃ gs' x' mm' ls, Abc ls ∧ ls.length = m ∧ cLC ⟨[.v c0], itR1⟩ (.n own) [own] ctYes cp (clN tab k) e = .ok (mk (BagD gs' x' mm') none, .o, .list (ls.map fun c => str [c])) := by
  obtain ⟨e2, ds, ⟨gs', x', mm', z, rfl⟩, hl, hd, h⟩ := lc_ex (cl := clN tab k) (e := e) (e1 := e1) (c0 := c0) (f := itR1) (tg := .n own) (own := [own]) (c := cp) (List.range m) (fun (i : Nat) => PyData.int (i : Int)) OneL (fun e => ∃ gs x mm z, e = mk (BagD gs x mm) z) hr (by rw [List.length_range]; omega) (by rw [he1]; simp [hown]) ⟨gs, x, mm, none, he1⟩ (by
    rintro e a ⟨gs, x, mm, z, rfl⟩
    obtain ⟨g1, x1, m1, c, hc, E⟩ := sp17s k hk gs x mm sm hsm (by omega)
    refine ⟨mk (BagD gs x mm) (some (.f, .int (a : Int))), by simp [hst, hown], mk (BagD g1 x1 m1) (some (.f, .int (a : Int))), .f, str [c], hp _ _ _ _ _ E, ⟨c, rfl, asm c hc⟩, ⟨g1, x1, m1, _, rfl⟩⟩)
  obtain ⟨ls, rfl, als, lls⟩ := ones hd
  refine ⟨gs', x', mm', ls, als, by rw [lls, hl, List.length_range], ?_⟩
  rw [h, he1]
  simp [hown, hst]
theorem sp20 (k : Nat) (hk : 3 ≤ k) (gs : List Int) (x mm : Int) : ∃ gs' x' mm' w, w.length ≤ 60 ∧ Abc w ∧ clN tab k 20 [(.b, BagD gs x mm)] = .ok ((.f, str w), [(.b, BagD gs' x' mm')]) := by
  obtain ⟨n, rfl⟩ : ∃ n, k = n + 1 := ⟨k - 1, by omega⟩
  have hd0 : PyData.str "" = str [] := rfl
  obtain ⟨g3, x3, m3, g4, x4, m4, g1, x1, m1, g2, x2, m2, d1, d2, d3, lg, hlg, E1, E2, E3, E4⟩ := st20_long n (by omega) gs x mm
  obtain ⟨g5, x5, m5, sm, hsm, asm, hsl, E5⟩ := st20_some n (by omega) g4 x4 m4
  obtain ⟨g6, x6, m6, wy, hwy, E6⟩ := sp16 n (by omega) g5 x5 m5 6 6 rfl (by omega) (by omega)
  obtain ⟨b, hb, hbi⟩ := eqI_b (wy : Int) 0
  -- the root
  obtain ⟨g7, x7, m7, rt, hrt, art, hrl, E7⟩ : ∃ g7 x7 m7 rt, ((wy : Int) = 1 → rt ≠ []) ∧ Abc rt ∧ rt.length ≤ 60 ∧ cLC ⟨[.v (cIfE (ctB (cOp (fEqM false) [.n 3, .v (cK (.int 0))])) (cVar 1) (cOp fAdd [.v (cK (.int 1)), .v (cCall 16 [(0, 0)] [.n 0, .v (cK (.int 9))])]))], itR1⟩ (.n 4) [4] ctYes (cCall 17 [(0, 0)] [.n 0, .v (cVar 2)]) (clN tab n) [some (.b, BagD g6 x6 m6), some (.f, .int (lg : Int)), some (.f, str sm), some (.f, .int (wy : Int)), none, none, none, none, none, none, none] =
      .ok ([some (.b, BagD g7 x7 m7), some (.f, .int (lg : Int)), some (.f, str sm), some (.f, .int (wy : Int)), none, none, none, none, none, none, none], .o, .list (rt.map fun c => str [c])) := by
    obtain ⟨g, x, m, mx, hmx, hmx2, hr⟩ : ∃ g x m mx, mx ≤ 60 ∧ ((wy : Int) = 1 → mx ≠ 0) ∧ itRun ⟨[.v (cIfE (ctB (cOp (fEqM false) [.n 3, .v (cK (.int 0))])) (cVar 1) (cOp fAdd [.v (cK (.int 1)), .v (cCall 16 [(0, 0)] [.n 0, .v (cK (.int 9))])]))], itR1⟩ (clN tab n) [some (.b, BagD g6 x6 m6), some (.f, .int (lg : Int)), some (.f, str sm), some (.f, .int (wy : Int)), none, none, none, none, none, none, none] = .ok ([some (.b, BagD g x m), some (.f, .int (lg : Int)), some (.f, str sm), some (.f, .int (wy : Int)), none, none, none, none, none, none, none], (List.range mx).map fun (i : Nat) => PyData.int (i : Int)) := by
      cases b with
      | true =>
        refine ⟨g6, x6, m6, lg, hlg, fun h => by have := hbi.mp rfl; omega, it_v (ow := .f) (d := .int (lg : Int)) ?_ (i_R1 (by omega))⟩
        generalize clN tab n = cl at *
        simp [hb]
      | false =>
        obtain ⟨g, x, m, d, hd, E⟩ := sp16 n (by omega) g6 x6 m6 9 9 rfl (by omega) (by omega)
        refine ⟨g, x, m, 1 + d, by omega, fun _ => by omega, it_v (ow := .f) (d := .int ((1 + d : Nat) : Int)) ?_ (i_R1 (by omega))⟩
        rw [show ((1 + d : Nat) : Int) = 1 + (d : Int) by omega]
        generalize clN tab n = cl at *
        simp [hb, E]
    obtain ⟨g7, x7, m7, ls, als, hls, h⟩ := lc_pick n (by omega) _ _ _ mx (by omega) sm hsm asm hsl (cCall 17 [(0, 0)] [.n 0, .v (cVar 2)]) 4 (fun b z => [some (.b, b), some (.f, .int (lg : Int)), some (.f, str sm), some (.f, .int (wy : Int)), z, none, none, none, none, none, none]) hr g x m rfl (fun _ _ => rfl) (fun _ _ _ => rfl) (fun cl b b' z c h => by simp [h])
    exact ⟨g7, x7, m7, ls, fun h => by have := hmx2 h; intro e; rw [e] at hls; simp at hls; omega, als, by omega, h⟩
  have hj := o_join (ls := rt) (by omega) art.lt
  obtain ⟨g8, x8, m8, rt2, z6, z7, h6, h7, art2, hrl2, E8⟩ := st20a n (by omega) g7 x7 m7 (lg : Int) sm hsm asm hsl (wy : Int) rt hrt art hrl
  obtain ⟨g9, x9, m9, rt3, y6, z8, z9, art3, hrl3, E9⟩ := st20b n (by omega) g8 x8 m8 (lg : Int) sm hsm asm hsl (wy : Int) rt2 z6 z7 h6 art2 hrl2
  have q1 : fMul [str rt3, .int 60] = some (.f, str (List.replicate 60 rt3).flatten) := o_repS (n := 60) (by omega) (by omega)
  have q2 := o_slB (l := (List.replicate 60 rt3).flatten) (b := lg) (by rw [rep_len]; omega)
  obtain ⟨g10, x10, m10, w, z4, aw, hw, E10⟩ := st20c n (by omega) g9 x9 m9 lg hlg sm (wy : Int) rt3 y6 z7 z8 z9 ((List.replicate 60 rt3).flatten.take lg) ((art3.rep 60).take _) (by rw [List.length_take]; omega)
  refine ⟨g10, x10, m10, w, hw, aw, ?_⟩
  rw [clN_go (rfl : tab 20 = some ⟨1, 11, [0], noEx c20⟩) rfl]
  unfold W20 at *
  clear hbi hwy hrt hlg
  generalize (List.replicate 60 rt3).flatten.take lg = u1 at *
  generalize (List.replicate 60 rt3).flatten = u2 at *
  generalize rt.map (fun c => str [c]) = RR at *
  generalize clN tab n = cl at *
  generalize (lg : Int) = l at *
  generalize (wy : Int) = wi at *
  generalize (d1 : Int) = i1 at *
  generalize (d2 : Int) = i2 at *
  generalize (d3 : Int) = i3 at *
  simp [c20_eq, E1, E2, E3, E4, E5, E6, hd0, E7, isStr, hj, E8, E9, q1, q2, E10]
end G
end

section
set_option Elab.async false
set_option linter.all false
set_option maxRecDepth 100000
set_option maxHeartbeats 1000000
namespace G
open PySem Ev
def q27d : CS := (cAsg 4 (cOp fIx [.v (cLst [(cK (.int 0)), (cOp fSub [.n 6, .v (cK (.int 1))]), (cCall 16 [(0, 0)] [.n 0, .v (cVar 6)])]), .n 2]))
def q27e : CS := (cAsg 4 (cIfE (ctAnd (ctB (cOp (fEqM false) [.n 2, .v (cK (.int 2))])) (ctAnd (ctB (cOp fGt [.n 6, .v (cK (.int 2))])) (ctB (cOp (fEqM false) [.v (cCall 16 [(0, 0)] [.n 0, .v (cK (.int 2))]), .v (cK (.int 0))])))) (cOp fSub [.n 6, .v (cK (.int 2))]) (cVar 4)))
def q27f : CS := (cRet (cOp fAdd [.v (cOp fAdd [.v (cOp fSlB [.n 7, .v (cInt (cVar 4))]), .v (cCall 17 [(0, 0)] [.n 0, .v (cLC ⟨[.v (cK (.str "abcd"))], itV⟩ (.n 8) [8] (ctB (cOp (fEqM true) [.n 8, .v (cOp fIx [.n 7, .n 4])])) (cVar 8))])]), .v (cOp fSlA [.n 7, .v (cInt (cOp fAdd [.n 4, .v (cK (.int 1))]))])]))
def q27c : CS := (cIf (ctB (cOp fLt [.n 2, .v (cK (.int 3))])) (cSq q27d
  (cSq q27e
  q27f)) cNx)
def q27b : CS := (cSq q27c
  (cSq (cIf (ctB (cOp (fEqM false) [.n 2, .v (cK (.int 3))])) (cRet (cOp fSlB [.v (cOp fAdd [.v (cCall 17 [(0, 0)] [.n 0, .v (cK (.str "abcd"))]), .n 7]), .v (cInt (cK (.int 60)))])) cNx)
  (cSq (cIf (ctB (cOp (fEqM false) [.n 2, .v (cK (.int 4))])) (cRet (cOp fSlA [.v (cOp fAdd [.n 7, .v (cCall 17 [(0, 0)] [.n 0, .v (cK (.str "abcd"))])]), .v (cInt (cOp fNeg [.v (cK (.int 60))]))])) cNx)
  (cRet (cIfE (ctB (cOp (fEqM false) [.n 2, .v (cK (.int 5))])) (cVar 7) (cOp fSlB [.v (cOp fMul [.n 7, .v (cK (.int 60))]), .v (cInt (cK (.int 60)))]))))))
def q27a : CS := (cSq (cAsg 5 (cIfE (ctB (cOp (fEqM false) [.v (cCall 16 [(0, 0)] [.n 0, .v (cK (.int 4))]), .v (cK (.int 0))])) (cK (.int 0)) (cCall 16 [(0, 0)] [.n 0, .v (cVar 3)])))
  (cSq (cAsg 6 (cIfE (ctB (cOp (fEqM false) [.v (cCall 16 [(0, 0)] [.n 0, .v (cK (.int 3))]), .v (cK (.int 0))])) (cOp fSub [.n 3, .n 5]) (cOp fAdd [.v (cK (.int 1)), .v (cCall 16 [(0, 0)] [.n 0, .v (cOp fMin2 [.v (cOp fSub [.n 3, .n 5]), .v (cK (.int 12))])])])))
  (cSq (cAsg 7 (cOp fSlAB [.n 1, .v (cInt (cVar 5)), .v (cInt (cOp fAdd [.n 5, .n 6]))]))
  q27b)))
theorem c27_eq : c27 = (cSq (cAsg 3 (cOp fLen [.n 1]))
  (cSq (cIf (ctOr (ctB (cOp (fEqM false) [.n 3, .v (cK (.int 0))])) (ctB (cOp (fEqM false) [.n 2, .v (cK (.int 7))]))) (cRet (cMeth isStr fJoin (.v (cK (.str ""))) [.v (cLC ⟨[.v (cCall 16 [(0, 0)] [.n 0, .v (cK (.int 5))])], itR1⟩ (.n 4) [4] ctYes (cCall 17 [(0, 0)] [.n 0, .v (cK (.str "abcd"))]))])) cNx)
  q27a)) := rfl
def W27 (b : PyData) (w : List Nat) (t nn : Int) (z4 : Option Vl) (f lg : Int) (p : List Nat) : En := [some (.b, b), some (.f, str w), some (.f, .int t), some (.f, .int nn), z4, some (.f, .int f), some (.f, .int lg), some (.f, str p), none]
theorem st27d (k : Nat) (hk : 2 ≤ k) (gs : List Int) (x mm : Int) (w : List Nat) (t : Nat) (ht : t < 3) (nn f : Int) (lg : Nat) (h0 : 0 < lg) (h1 : lg ≤ 60) (p : List Nat) :
    ∃ gs' x' mm' kk, kk < lg ∧ q27d (clN tab k) (W27 (BagD gs x mm) w (t : Int) nn none f (lg : Int) p) = .ok (W27 (BagD gs' x' mm') w (t : Int) nn (some (.f, .int (kk : Nat))) f (lg : Int) p, .nx) := by
  obtain ⟨g1, x1, m1, d, hd, E1⟩ := sp16 k (by omega) gs x mm (lg : Int) lg rfl h0 (by omega)
  obtain ⟨kk, hkk, q⟩ : ∃ kk : Nat, kk < lg ∧ fIx [.list [.int 0, .int ((lg : Int) - 1), .int (d : Int)], .int (t : Int)] = some (.f, .int (kk : Int)) := by
    rcases (by omega : t = 0 ∨ t = 1 ∨ t = 2) with rfl | rfl | rfl
    · exact ⟨0, h0, rfl⟩
    · refine ⟨lg - 1, by omega, ?_⟩
      rw [show ((lg - 1 : Nat) : Int) = (lg : Int) - 1 by omega]
      rfl
    · exact ⟨d, hd, rfl⟩
  refine ⟨g1, x1, m1, kk, hkk, ?_⟩
  generalize clN tab k = cl at *
  generalize (lg : Int) = l at *
  generalize (t : Int) = tt at *
  simp [-o_ixL, q27d, W27, E1, q]
theorem st27e (k : Nat) (hk : 2 ≤ k) (gs : List Int) (x mm : Int) (w : List Nat) (t : Nat) (nn f : Int) (lg : Nat) (p : List Nat) (k0 : Nat) (hk0 : k0 < lg) :
    ∃ gs' x' mm' kk, kk < lg ∧ q27e (clN tab k) (W27 (BagD gs x mm) w (t : Int) nn (some (.f, .int (k0 : Nat))) f (lg : Int) p) = .ok (W27 (BagD gs' x' mm') w (t : Int) nn (some (.f, .int (kk : Nat))) f (lg : Int) p, .nx) := by
  obtain ⟨b1, hb1, _⟩ := eqI_b (t : Int) 2
  obtain ⟨b2, hb2, hb2'⟩ := gtI_b (lg : Int) 2
  obtain ⟨g1, x1, m1, d, hd, E1⟩ := sp16 k (by omega) gs x mm 2 2 rfl (by omega) (by omega)
  obtain ⟨b3, hb3, _⟩ := eqI_b (d : Int) 0
  cases b1 with
  | false =>
    refine ⟨gs, x, mm, k0, hk0, ?_⟩
    generalize clN tab k = cl at *
    simp [-o_gtI, q27e, W27, hb1]
  | true =>
    cases b2 with
    | false =>
      refine ⟨gs, x, mm, k0, hk0, ?_⟩
      generalize clN tab k = cl at *
      simp [-o_gtI, q27e, W27, hb1, hb2]
    | true =>
      cases b3 with
      | false =>
        refine ⟨g1, x1, m1, k0, hk0, ?_⟩
        generalize clN tab k = cl at *
        simp [-o_gtI, q27e, W27, hb1, hb2, E1, hb3]
      | true =>
        have := hb2'.mp rfl
        refine ⟨g1, x1, m1, lg - 2, by omega, ?_⟩
        rw [show ((lg - 2 : Nat) : Int) = (lg : Int) - 2 by omega]
        clear hb2'
        generalize clN tab k = cl at *
        generalize (lg : Int) = l at *
        simp [-o_gtI, q27e, W27, hb1, hb2, E1, hb3]
theorem st27f (k : Nat) (hk : 2 ≤ k) (gs : List Int) (x mm : Int) (w : List Nat) (t nn f lg : Int) (p : List Nat) (ap : Abc p) (hp : p.length ≤ 60) (kk : Nat) (hkk : kk < p.length) :
    ∃ gs' x' mm' y e2, Abc y ∧ y.length ≤ 60 ∧ gt e2 0 = some (.b, BagD gs' x' mm') ∧ q27f (clN tab k) (W27 (BagD gs x mm) w t nn (some (.f, .int (kk : Nat))) f lg p) = .ok (e2, .rt (.f, str y)) := by
  have hd : PyData.str "abcd" = str [97, 98, 99, 100] := rfl
  have hix := o_ixS (l := p) (i := (kk : Int)) (by omega)
  rw [atI_nat, List.getElem?_eq_getElem hkk] at hix
  generalize hq : p[kk] = q at *
  have h := fun (cl : Cl) (bg : PyData) => lc_step (cl := cl) (e := W27 bg w t nn (some (.f, .int (kk : Nat))) f lg p) (as := [.v (cK (str [97, 98, 99, 100]))]) (f := itV) (tg := .n 8) (own := [8]) (t := ctB (cOp (fEqM true) [.n 8, .v (cOp fIx [.n 7, .n 4])])) (c := cVar 8) [97, 98, 99, 100] (fun c => str [c]) (fun c => c != q) (fun c => str [c])
    (it_v (ow := .f) (d := str [97, 98, 99, 100]) rfl i_strV) (by rw [s_lkv, s_lk0]) (by decide) (by simp [W27]) (fun c hc => by
      have f1 := neS1 (a := c) (b := q)
      cases hcq : (c != q) with
      | true =>
        rw [hcq] at f1
        simp [lcStep, W27, hix, f1]
      | false =>
        rw [hcq] at f1
        simp [lcStep, W27, hix, f1])
  have hne : (([97, 98, 99, 100] : List Nat).filter (fun c => c != q)).map (fun c => str [c]) ≠ [] := by
    intro e
    have e1 := List.map_eq_nil_iff.mp e
    rw [List.filter_eq_nil_iff] at e1
    have a := e1 97 (by simp)
    have b := e1 98 (by simp)
    simp at a b
    omega
  obtain ⟨g1, x1, m1, c, hc, E1⟩ := sp17l k hk gs x mm _ hne (by
    rw [List.length_map]
    have := List.length_filter_le (fun c => c != q) [97, 98, 99, 100]
    simp at this
    omega)
  obtain ⟨c1, hc1, rfl⟩ := List.mem_map.mp hc
  have hc2 := (List.mem_filter.mp hc1).1
  have ac : 97 ≤ c1 ∧ c1 ≤ 100 := by
    simp at hc2
    omega
  have q1 := o_slB (l := p) (b := kk) (by omega)
  have q2 : fSlA [str p, .int ((kk : Int) + 1)] = some (.f, str (p.drop (kk + 1))) := by
    rw [show (kk : Int) + 1 = ((kk + 1 : Nat) : Int) by omega]
    exact o_slA (by omega)
  have q3 := o_addS (a := p.take kk) (b := [c1]) (by simp; omega)
  have q4 := o_addS (a := p.take kk ++ [c1]) (b := p.drop (kk + 1)) (by simp; omega)
  refine ⟨g1, x1, m1, p.take kk ++ [c1] ++ p.drop (kk + 1), W27 (BagD g1 x1 m1) w t nn (some (.f, .int (kk : Nat))) f lg p, ((ap.take kk).app (Abc.one ac)).app (ap.drop (kk + 1)), by simp; omega, rfl, ?_⟩
  have h' := h (clN tab k) (BagD gs x mm)
  clear h hne hc hc1 hc2 hq
  generalize (([97, 98, 99, 100] : List Nat).filter (fun c => c != q)).map (fun c => str [c]) = FF at *
  generalize p.take kk ++ [c1] ++ p.drop (kk + 1) = u1 at *
  generalize p.take kk ++ [c1] = u2 at *
  generalize p.drop (kk + 1) = u3 at *
  generalize p.take kk = u4 at *
  generalize clN tab k = cl at *
  generalize (kk : Int) = kz at *
  unfold W27 at *
  simp [q27f, hd, q1, q2, q3, q4, h', E1]
theorem cut_sub {α : Type} (l : List α) (lo hi : Option Int) : ∀ c ∈ cutD l lo hi, c ∈ l := fun c hc => List.drop_subset _ _ (List.take_subset _ _ hc)
theorem cut_len {α : Type} (l : List α) (lo hi : Option Int) : (cutD l lo hi).length ≤ l.length := by
  unfold cutD
  rw [List.length_take, List.length_drop]
  omega
theorem st27b (k : Nat) (hk : 2 ≤ k) (gs : List Int) (x mm : Int) (w : List Nat) (t : Nat) (nn f : Int) (lg : Nat) (h0 : 0 < lg) (h1 : lg ≤ 60) (p : List Nat) (ap : Abc p) (hp : p.length = lg) :
    ∃ gs' x' mm' y e2, Abc y ∧ y.length ≤ 61 ∧ gt e2 0 = some (.b, BagD gs' x' mm') ∧ q27b (clN tab k) (W27 (BagD gs x mm) w (t : Int) nn none f (lg : Int) p) = .ok (e2, .rt (.f, str y)) := by
  have hd : PyData.str "abcd" = str [97, 98, 99, 100] := rfl
  by_cases ht : t < 3
  · have f1 : fLt [.int (t : Int), .int 3] = some (.f, .bool true) := by rw [o_ltI, decide_eq_true (by omega)]
    obtain ⟨g1, x1, m1, k0, hk0, D1⟩ := st27d k hk gs x mm w t ht nn f lg h0 h1 p
    obtain ⟨g2, x2, m2, k1, hk1, D2⟩ := st27e k hk g1 x1 m1 w t nn f lg p k0 hk0
    obtain ⟨g3, x3, m3, y, e2, ay, hy, he, D3⟩ := st27f k hk g2 x2 m2 w (t : Int) nn f (lg : Int) p ap (by omega) k1 (by omega)
    refine ⟨g3, x3, m3, y, e2, ay, by omega, he, ?_⟩
    generalize clN tab k = cl at *
    unfold W27 at *
    simp [-o_ltI, q27b, q27c, f1, D1, D2, D3]
  · have f1 : fLt [.int (t : Int), .int 3] = some (.f, .bool false) := by rw [o_ltI, decide_eq_false (by omega)]
    obtain ⟨b3, hb3, _⟩ := eqI_b (t : Int) 3
    obtain ⟨b4, hb4, _⟩ := eqI_b (t : Int) 4
    obtain ⟨b5, hb5, _⟩ := eqI_b (t : Int) 5
    obtain ⟨g1, x1, m1, c, hc, E1⟩ := sp17s k (by omega) gs x mm [97, 98, 99, 100] (by simp) (by simp)
    have ac : 97 ≤ c ∧ c ≤ 100 := by
      simp at hc
      omega
    cases b3 with
    | true =>
      have q1 := o_addS (a := [c]) (b := p) (by simp; omega)
      have q2 : fSlB [str ([c] ++ p), .int 60] = some (.f, str (([c] ++ p).take 60)) := o_slB (b := 60) (by simp; omega)
      refine ⟨g1, x1, m1, ([c] ++ p).take 60, W27 (BagD g1 x1 m1) w (t : Int) nn none f (lg : Int) p, ((Abc.one ac).app ap).take 60, by rw [List.length_take]; omega, rfl, ?_⟩
      generalize ([c] ++ p).take 60 = u1 at *
      generalize [c] ++ p = u2 at *
      generalize clN tab k = cl at *
      unfold W27 at *
      simp [-o_ltI, q27b, q27c, f1, hb3, hd, E1, q1, q2]
    | false =>
      cases b4 with
      | true =>
        have q1 := o_addS (a := p) (b := [c]) (by simp; omega)
        have q2 : fSlA [str (p ++ [c]), .int (-60)] = some (.f, str (cutD (p ++ [c]) (some (-60)) none)) := fSl_str (by simp; omega)
        refine ⟨g1, x1, m1, cutD (p ++ [c]) (some (-60)) none, W27 (BagD g1 x1 m1) w (t : Int) nn none f (lg : Int) p, fun d hd => (ap.app (Abc.one ac)) d (cut_sub _ _ _ d hd), by have := cut_len (p ++ [c]) (some (-60)) none; simp at this; omega, rfl, ?_⟩
        generalize cutD (p ++ [c]) (some (-60)) none = u1 at *
        generalize p ++ [c] = u2 at *
        generalize clN tab k = cl at *
        unfold W27 at *
        simp [-o_ltI, q27b, q27c, f1, hb3, hb4, hd, E1, q1, q2]
      | false =>
        cases b5 with
        | true =>
          refine ⟨gs, x, mm, p, W27 (BagD gs x mm) w (t : Int) nn none f (lg : Int) p, ap, by omega, rfl, ?_⟩
          generalize clN tab k = cl at *
          unfold W27 at *
          simp [-o_ltI, q27b, q27c, f1, hb3, hb4, hb5]
        | false =>
          have q1 : fMul [str p, .int 60] = some (.f, str (List.replicate 60 p).flatten) := o_repS (n := 60) (by omega) (by omega)
          have q2 : fSlB [str (List.replicate 60 p).flatten, .int 60] = some (.f, str ((List.replicate 60 p).flatten.take 60)) := o_slB (b := 60) (by rw [rep_len]; omega)
          refine ⟨gs, x, mm, (List.replicate 60 p).flatten.take 60, W27 (BagD gs x mm) w (t : Int) nn none f (lg : Int) p, (ap.rep 60).take 60, by rw [List.length_take]; omega, rfl, ?_⟩
          generalize (List.replicate 60 p).flatten.take 60 = u1 at *
          generalize (List.replicate 60 p).flatten = u2 at *
          generalize clN tab k = cl at *
          unfold W27 at *
          simp [-o_ltI, q27b, q27c, f1, hb3, hb4, hb5, q1, q2]
end G
end

section
set_option Elab.async false
set_option linter.all false
set_option maxRecDepth 100000
set_option maxHeartbeats 1000000
namespace G
open PySem Ev
theorem st27a (k : Nat) (hk : 2 ≤ k) (gs : List Int) (x mm : Int) (w : List Nat) (aw : Abc w) (hw : w.length ≤ 60) (h0 : 0 < w.length) (t : Nat) :
    ∃ gs' x' mm' y e2, Abc y ∧ y.length ≤ 61 ∧ gt e2 0 = some (.b, BagD gs' x' mm') ∧ q27a (clN tab k) [some (.b, BagD gs x mm), some (.f, str w), some (.f, .int (t : Int)), some (.f, .int (w.length : Int)), none, none, none, none, none] = .ok (e2, .rt (.f, str y)) := by
  obtain ⟨g1, x1, m1, d1, _, E1⟩ := sp16 k (by omega) gs x mm 4 4 rfl (by omega) (by omega)
  obtain ⟨b1, hb1, _⟩ := eqI_b (d1 : Int) 0
  -- f
  obtain ⟨g2, x2, m2, f, hf, F1⟩ : ∃ g2 x2 m2 f, f < w.length ∧ (cIfE (ctB (cOp (fEqM false) [.v (cCall 16 [(0, 0)] [.n 0, .v (cK (.int 4))]), .v (cK (.int 0))])) (cK (.int 0)) (cCall 16 [(0, 0)] [.n 0, .v (cVar 3)])) (clN tab k) [some (.b, BagD gs x mm), some (.f, str w), some (.f, .int (t : Int)), some (.f, .int (w.length : Int)), none, none, none, none, none] = .ok ([some (.b, BagD g2 x2 m2), some (.f, str w), some (.f, .int (t : Int)), some (.f, .int (w.length : Int)), none, none, none, none, none], .f, .int (f : Nat)) := by
    cases b1 with
    | true =>
      refine ⟨g1, x1, m1, 0, h0, ?_⟩
      rw [show ((0 : Nat) : Int) = 0 from rfl]
      generalize clN tab k = cl at *
      generalize (w.length : Int) = wl at *
      simp [E1, hb1]
    | false =>
      obtain ⟨g2, x2, m2, f, hf, E2⟩ := sp16 k (by omega) g1 x1 m1 (w.length : Int) w.length rfl h0 (by omega)
      refine ⟨g2, x2, m2, f, hf, ?_⟩
      generalize clN tab k = cl at *
      generalize (w.length : Int) = wl at *
      simp [E1, hb1, E2]
  obtain ⟨g3, x3, m3, d3, _, E3⟩ := sp16 k (by omega) g2 x2 m2 3 3 rfl (by omega) (by omega)
  obtain ⟨b3, hb3, _⟩ := eqI_b (d3 : Int) 0
  obtain ⟨g4, x4, m4, lg, hl0, hl1, F2⟩ : ∃ g4 x4 m4 lg, 0 < lg ∧ f + lg ≤ w.length ∧ (cIfE (ctB (cOp (fEqM false) [.v (cCall 16 [(0, 0)] [.n 0, .v (cK (.int 3))]), .v (cK (.int 0))])) (cOp fSub [.n 3, .n 5]) (cOp fAdd [.v (cK (.int 1)), .v (cCall 16 [(0, 0)] [.n 0, .v (cOp fMin2 [.v (cOp fSub [.n 3, .n 5]), .v (cK (.int 12))])])])) (clN tab k) [some (.b, BagD g2 x2 m2), some (.f, str w), some (.f, .int (t : Int)), some (.f, .int (w.length : Int)), none, some (.f, .int (f : Nat)), none, none, none] = .ok ([some (.b, BagD g4 x4 m4), some (.f, str w), some (.f, .int (t : Int)), some (.f, .int (w.length : Int)), none, some (.f, .int (f : Nat)), none, none, none], .f, .int (lg : Nat)) := by
    cases b3 with
    | true =>
      refine ⟨g3, x3, m3, w.length - f, by omega, by omega, ?_⟩
      rw [show ((w.length - f : Nat) : Int) = (w.length : Int) - (f : Int) by omega]
      generalize clN tab k = cl at *
      generalize (w.length : Int) = wl at *
      simp [E3, hb3]
    | false =>
      obtain ⟨mi, hmi, hmi0, hmi1⟩ : ∃ mi : Nat, fMin2 [.int ((w.length : Int) - (f : Int)), .int 12] = some (.f, .int (mi : Int)) ∧ 0 < mi ∧ mi ≤ w.length - f := by
        rw [o_min2]
        by_cases h : (12 : Int) < (w.length : Int) - (f : Int)
        · exact ⟨12, by rw [if_pos h]; rfl, by omega, by omega⟩
        · exact ⟨w.length - f, by rw [if_neg h]; congr 3; omega, by omega, by omega⟩
      obtain ⟨g4, x4, m4, d, hd, E4⟩ := sp16 k (by omega) g3 x3 m3 (mi : Int) mi rfl hmi0 (by omega)
      refine ⟨g4, x4, m4, 1 + d, by omega, by omega, ?_⟩
      rw [show ((1 + d : Nat) : Int) = 1 + (d : Int) by omega]
      generalize clN tab k = cl at *
      generalize (w.length : Int) = wl at *
      simp [-o_min2, E3, hb3, hmi, E4]
  have q1 : fSlAB [str w, .int (f : Int), .int ((f : Int) + (lg : Int))] = some (.f, str ((w.drop f).take lg)) := by
    rw [show (f : Int) + (lg : Int) = ((f + lg : Nat) : Int) by omega, o_slAB (by omega), Nat.add_sub_cancel_left]
  have hpl : ((w.drop f).take lg).length = lg := by
    rw [List.length_take, List.length_drop]
    omega
  obtain ⟨g5, x5, m5, y, e2, ay, hy, he, D⟩ := st27b k hk g4 x4 m4 w t (w.length : Int) (f : Int) lg hl0 (by omega) ((w.drop f).take lg) ((aw.drop f).take lg) hpl
  refine ⟨g5, x5, m5, y, e2, ay, hy, he, ?_⟩
  unfold W27 at D
  clear hpl hl1 hl0 hf h0 hw
  generalize (w.drop f).take lg = p at *
  generalize clN tab k = cl at *
  generalize (w.length : Int) = wl at *
  generalize (f : Int) = ff at *
  generalize (lg : Int) = ll at *
  unfold q27a
  rw [s_sq, s_asg, F1]
  simp only [s_bind, s_asgN, s_gt0, s_gtS, nl_n, if_true, s_st0, s_stS]
  rw [s_sq, s_asg, F2]
  simp only [s_bind, s_asgN, s_gt0, s_gtS, nl_n, if_true, s_st0, s_stS]
  simp [q1, D]
theorem sp27 (k : Nat) (hk : 3 ≤ k) (gs : List Int) (x mm : Int) (w : List Nat) (aw : Abc w) (hw : w.length ≤ 60) (ti : Int) (t : Nat) (hti : ti = (t : Int)) :
    ∃ gs' x' mm' y, Abc y ∧ y.length ≤ 61 ∧ clN tab k 27 [(.b, BagD gs x mm), (.f, str w), (.f, .int ti)] = .ok ((.f, str y), [(.b, BagD gs' x' mm')]) := by
  subst hti
  obtain ⟨n, rfl⟩ : ∃ n, k = n + 1 := ⟨k - 1, by omega⟩
  have hd0 : PyData.str "" = str [] := rfl
  have hd : PyData.str "abcd" = str [97, 98, 99, 100] := rfl
  have hwl := o_len (l := w) (by omega)
  obtain ⟨b1, hb1, hb1i⟩ := eqI_b (w.length : Int) 0
  obtain ⟨b2, hb2, _⟩ := eqI_b (t : Int) 7
  by_cases hbb : b1 = true ∨ b2 = true
  · obtain ⟨g1, x1, m1, d, hdd, E1⟩ := sp16 n (by omega) gs x mm 5 5 rfl (by omega) (by omega)
    obtain ⟨g2, x2, m2, ls, als, hls, E2⟩ := lc_pick n (by omega) [some (.b, BagD gs x mm), some (.f, str w), some (.f, .int (t : Int)), some (.f, .int (w.length : Int)), none, none, none, none, none] [some (.b, BagD g1 x1 m1), some (.f, str w), some (.f, .int (t : Int)), some (.f, .int (w.length : Int)), none, none, none, none, none] (cCall 16 [(0, 0)] [.n 0, .v (cK (.int 5))]) d (by omega) [97, 98, 99, 100] (by simp) (abcB _ rfl) (by simp) (cCall 17 [(0, 0)] [.n 0, .v (cK (str [97, 98, 99, 100]))]) 4 (fun b z => [some (.b, b), some (.f, str w), some (.f, .int (t : Int)), some (.f, .int (w.length : Int)), z, none, none, none, none])
      (it_v (ow := .f) (d := .int (d : Int)) (by
        generalize clN tab n = cl at *
        generalize (w.length : Int) = wl at *
        simp [E1]) (i_R1 (by omega))) g1 x1 m1 rfl (fun _ _ => rfl) (fun _ _ _ => rfl) (fun cl b b' z c h => by
          generalize (w.length : Int) = wl at *
          simp [h])
    have hj := o_join (ls := ls) (by omega) als.lt
    refine ⟨g2, x2, m2, ls, als, by omega, ?_⟩
    rw [clN_go (rfl : tab 27 = some ⟨3, 9, [0], noEx c27⟩) rfl]
    clear hb1i hdd hw hls
    generalize ls.map (fun c => str [c]) = LL at *
    generalize clN tab n = cl at *
    generalize (w.length : Int) = wl at *
    cases b1 with
    | true => simp [c27_eq, hd0, hd, hwl, hb1, E2, isStr, hj]
    | false =>
      have : b2 = true := by simpa using hbb
      subst this
      simp [c27_eq, hd0, hd, hwl, hb1, hb2, E2, isStr, hj]
  · have h1 : b1 = false := by
      cases b1
      · rfl
      · exact absurd (.inl rfl) hbb
    have h2 : b2 = false := by
      cases b2
      · rfl
      · exact absurd (.inr rfl) hbb
    subst h1 h2
    have h0 : 0 < w.length := by
      by_cases h : w.length = 0
      · have := hb1i.mpr (by omega)
        cases this
      · omega
    obtain ⟨g1, x1, m1, y, e2, ay, hy, he, D⟩ := st27a n (by omega) gs x mm w aw hw h0 t
    refine ⟨g1, x1, m1, y, ay, hy, ?_⟩
    rw [clN_go (rfl : tab 27 = some ⟨3, 9, [0], noEx c27⟩) rfl]
    clear hb1i h0 hw hbb
    generalize clN tab n = cl at *
    generalize (w.length : Int) = wl at *
    simp [c27_eq, hwl, hb1, hb2, D, he]
end G
end

section
set_option Elab.async false
set_option linter.all false
set_option maxRecDepth 100000
set_option maxHeartbeats 1000000
namespace G
open PySem Ev B
theorem rgs_get (s x : List Nat) (t : Nat) (h : t ≤ x.length) : (rgs s x)[t]? = some (rg s (x.drop (x.length - t))) := by
  unfold rgs
  rw [List.getElem?_map, List.getElem?_range (by omega)]
  rfl
theorem drop_step (x : List Nat) (t : Nat) (h : t < x.length) : x.drop (x.length - (t + 1)) = x.getD (x.length - 1 - t) 0 :: x.drop (x.length - t) := by
  rw [List.drop_eq_getElem_cons (i := x.length - (t + 1)) (by omega), show x.length - (t + 1) + 1 = x.length - t by omega]
  congr 1
  rw [List.getD_eq_getElem?_getD, show x.length - 1 - t = x.length - (t + 1) by omega, List.getElem?_eq_getElem (by omega)]
  rfl
theorem ne_mono (w : List Nat) (c : Nat) (hc : 46 < c) (y : List Nat) (h : (rg (w ++ [46]) (c :: y)).1 < (rg (w ++ [46]) (c :: y)).2) : (rg (w ++ [46]) y).1 < (rg (w ++ [46]) y).2 := by
  rw [rg_cons w c hc y] at h
  simp only at h
  by_cases hq : (rg (w ++ [46]) y).1 < (rg (w ++ [46]) y).2
  · exact hq
  · exfalso
    have e : (La (w ++ [46])).take (rg (w ++ [46]) y).2 = ((La (w ++ [46])).take (rg (w ++ [46]) y).1).take (rg (w ++ [46]) y).2 := by
      rw [List.take_take, Nat.min_eq_left (by omega)]
    have := (List.take_sublist (rg (w ++ [46]) y).2 ((La (w ++ [46])).take (rg (w ++ [46]) y).1)).count_le c
    rw [← e] at this
    omega
theorem ne_all (w x : List Nat) (hx' : ∀ c ∈ x, 46 < c) (h : (rg (w ++ [46]) x).1 < (rg (w ++ [46]) x).2) : ∀ d t, t + d = x.length → (rg (w ++ [46]) (x.drop (x.length - t))).1 < (rg (w ++ [46]) (x.drop (x.length - t))).2
  | 0, t, e => by
    rw [show x.length - t = 0 by omega, List.drop_zero]
    exact h
  | d + 1, t, e => by
    have ih := ne_all w x hx' h d (t + 1) (by omega)
    rw [drop_step x t (by omega)] at ih
    refine ne_mono w _ ?_ _ ih
    rw [List.getD_eq_getElem?_getD, List.getElem?_eq_getElem (by omega)]
    exact hx' _ (List.getElem_mem _)
theorem tw_all : ∀ {l : List (Nat × Nat)}, (∀ p ∈ l, ne p = true) → l.takeWhile ne = l
  | [], _ => rfl
  | a :: l, h => by rw [List.takeWhile_cons_of_pos (h a (List.mem_cons_self ..)), tw_all fun p hp => h p (List.mem_cons_of_mem _ hp)]
theorem kn_full (w x : List Nat) (hx' : ∀ c ∈ x, 46 < c) (h : (rg (w ++ [46]) x).1 < (rg (w ++ [46]) x).2) : kn w x = x.length + 1 := by
  unfold kn
  rw [tw_all, rgs_len]
  intro p hp
  obtain ⟨t, ht, rfl⟩ := List.mem_map.mp hp
  have := List.mem_range.mp ht
  have := ne_all w x hx' h (x.length - t) t (by omega)
  simpa [ne] using this
theorem kn_short (w x : List Nat) (h : ¬ (rg (w ++ [46]) x).1 < (rg (w ++ [46]) x).2) : kn w x ≤ x.length := by
  have h1 := kn_le w x
  by_cases hk : kn w x = x.length + 1
  · exfalso
    have hp := rgs_get (w ++ [46]) x x.length (Nat.le_refl _)
    rw [Nat.sub_self, List.drop_zero] at hp
    have := (tw_at _ x.length _ (by unfold kn at hk; omega) hp).mpr (by unfold kn at hk; omega)
    simp [ne] at this
    omega
  · omega
theorem kp_get {w x : List Nat} {t : Nat} (h : t < kn w x) : (kp w x)[t]? = some ((at_ w).getD ((rg (w ++ [46]) (x.drop (x.length - t))).2 - 1) 0) := by
  have := kn_le w x
  exact kp_at h (rgs_get _ _ _ (by omega))
/-- one turn: what the law asks of a move -/
theorem move_ok {w x : List Nat} (hw : ∀ c ∈ w, 46 < c) (hx' : ∀ c ∈ x, 46 < c) {t : Nat} (h : t + 1 < kn w x) : ∃ (b : Bool) (a a' : Nat), (km w x)[t]? = some (.bool b) ∧ (kp w x)[t]? = some a ∧ (kp w x)[t + 1]? = some a' ∧ (b = true → a' + 1 = a) ∧ (b = false → a' ∈ EN w) ∧ (t = 0 → a' ∈ EN w) := by
  have hle := kn_le w x
  have hx1 : t < x.length := by omega
  have hc : 46 < x.getD (x.length - 1 - t) 0 := by
    rw [List.getD_eq_getElem?_getD, List.getElem?_eq_getElem (by omega)]
    exact hx' _ (List.getElem_mem _)
  have hne1 : (rg (w ++ [46]) (x.drop (x.length - (t + 1)))).1 < (rg (w ++ [46]) (x.drop (x.length - (t + 1)))).2 := by
    have := (tw_at _ (t + 1) _ (by unfold kn at h; omega) (rgs_get (w ++ [46]) x (t + 1) (by omega))).mpr (by unfold kn at h; omega)
    simpa [ne] using this
  have hne0 : (rg (w ++ [46]) (x.drop (x.length - t))).1 < (rg (w ++ [46]) (x.drop (x.length - t))).2 := by
    have := (tw_at _ t _ (by unfold kn at h; omega) (rgs_get (w ++ [46]) x t (by omega))).mpr (by unfold kn at h; omega)
    simpa [ne] using this
  rw [drop_step x t hx1] at hne1
  obtain ⟨k1, k2⟩ := kept_step hw hc hne1 (by omega)
  have km1 := km_at (w := w) (x := x) h (rgs_get (w ++ [46]) x t (by omega))
  have g0 := kp_get (w := w) (x := x) (t := t) (by omega)
  have g1 := kp_get (w := w) (x := x) (t := t + 1) h
  rw [drop_step x t hx1] at g1
  refine ⟨_, _, _, km1, g0, g1, fun hb => ?_, fun hb => ?_, fun h0 => ?_⟩
  · simp only [decide_eq_true_eq] at hb
    exact (k1 hb).1
  · simp only [decide_eq_false_iff_not] at hb
    exact k2 hb
  · subst h0
    by_cases hb : (La (w ++ [46])).getD ((rg (w ++ [46]) (x.drop (x.length - 0))).2 - 1) 0 = x.getD (x.length - 1 - 0) 0
    · refine (k1 hb).2 ?_
      rw [Nat.sub_zero, List.drop_length, rg_nil]
      simp
    · exact k2 hb
theorem La_abc {w : List Nat} (hw : ∀ c ∈ w, 97 ≤ c ∧ c ≤ 100) : ∀ l ∈ La (w ++ [46]), l = 46 ∨ (97 ≤ l ∧ l ≤ 100) := by
  intro l hl
  obtain ⟨t, ht, rfl⟩ := List.mem_map.mp hl
  rcases at_bf2 ht with ⟨_, h⟩ | ⟨k, hk, _, h⟩
  · exact .inl h
  · exact .inr (hw _ (List.mem_of_getElem? h))
end G
end

section
set_option Elab.async false
set_option linter.all false
set_option maxRecDepth 100000
set_option maxHeartbeats 1000000
namespace G
open PySem Ev B
theorem p7k (k : Nat) (hk : 2 ≤ k) (w x : List Nat) (hw : w.length ≤ 100) (hx : x.length ≤ 100) (ax : Abc x) : clN tab k 7 [(.f, str (La (w ++ [46]))), (.f, str x)] = .ok ((.f, .tuple ((rgs (w ++ [46]) x).map prD)), []) := by
  obtain ⟨n, rfl⟩ : ∃ n, k = n + 2 := ⟨k - 2, by omega⟩
  exact sp7' n w x (by omega) (by omega) ax.gt
theorem p8k (k : Nat) (hk : 3 ≤ k) (w x : List Nat) (hw : w.length ≤ 100) (hx : x.length ≤ 100) (ax : Abc x) : clN tab k 8 [(.f, str (La (w ++ [46]))), (.f, str x)] = .ok ((.f, subD (rg (w ++ [46]) x)), []) := by
  obtain ⟨n, rfl⟩ : ∃ n, k = n + 3 := ⟨k - 3, by omega⟩
  exact sp8 n w x (by omega) (by omega) ax.gt
theorem p9k (k : Nat) (hk : 4 ≤ k) (w x : List Nat) (hw : w.length ≤ 100) (aw : Abc w) (hx : x.length ≤ 100) (ax : Abc x) (hn : x ≠ []) : clN tab k 9 [(.f, str (La (w ++ [46]))), (.f, str x)] = .ok ((.f, .tuple (nums (stands w x))), []) := by
  obtain ⟨n, rfl⟩ : ∃ n, k = n + 4 := ⟨k - 4, by omega⟩
  exact sp9 n w x (by omega) aw.both (by omega) ax.gt hn
theorem p12k (k : Nat) (hk : 4 ≤ k) (w x : List Nat) (hw : w.length ≤ 100) (aw : Abc w) (hx : x.length ≤ 100) (ax : Abc x) : clN tab k 12 [(.f, str w), (.f, str x)] = .ok ((.f, .tuple (nums (kp w x))), []) := by
  obtain ⟨n, rfl⟩ : ∃ n, k = n + 4 := ⟨k - 4, by omega⟩
  exact sp12 n w x (by omega) aw.both (by omega) ax.gt
theorem p13k (k : Nat) (hk : 4 ≤ k) (w x : List Nat) (hw : w.length ≤ 100) (aw : Abc w) (hx : x.length ≤ 100) (ax : Abc x) : clN tab k 13 [(.f, str w), (.f, str x)] = .ok ((.f, .tuple (km w x)), []) := by
  obtain ⟨n, rfl⟩ : ∃ n, k = n + 4 := ⟨k - 4, by omega⟩
  exact sp13 n w x (by omega) aw.both (by omega) ax.gt
theorem pl_nums (m : Nat) (l : List Nat) : (nums l).all (plB m) = true := by
  rw [List.all_eq_true]
  intro d hd
  obtain ⟨i, _, rfl⟩ := List.mem_map.mp hd
  cases m <;> rfl
theorem pl_rgs (w x : List Nat) (hx : x.length ≤ 100) : plB 2 (.tuple ((rgs (w ++ [46]) x).map prD)) = true := by
  simp only [plB, Bool.and_eq_true, decide_eq_true_eq, List.all_eq_true]
  refine ⟨by rw [List.length_map, rgs_len]; omega, fun d hd => ?_⟩
  obtain ⟨p, _, rfl⟩ := List.mem_map.mp hd
  rfl
theorem pl_km (w x : List Nat) (hx : x.length ≤ 100) : plB 1 (.tuple (km w x)) = true := by
  simp only [plB, Bool.and_eq_true, decide_eq_true_eq, List.all_eq_true]
  have := kn_le w x
  refine ⟨by rw [km_len]; omega, fun d hd => ?_⟩
  obtain ⟨p, _, rfl⟩ := List.mem_map.mp hd
  rfl
theorem stands_len (w x : List Nat) : (stands w x).length ≤ w.length + 1 := by
  have := List.length_filter_le (fun i => (w.drop i).take x.length == x) (List.range (w.length + 1 - x.length))
  rw [List.length_range] at this
  unfold stands
  omega
/-- what stands, places below n -/
def SN (w x : List Nat) : List Nat := (List.range w.length).filter fun i => (w.drop i).take x.length == x
theorem sp28 (k : Nat) (hk : 6 ≤ k) (w x : List Nat) (hw : w.length ≤ 100) (aw : Abc w) (hx : x.length ≤ 100) (ax : Abc x) (way : Int) : clN tab k 28 [(.f, str w), (.f, str (La (w ++ [46]))), (.f, str x), (.f, .int way)] = .ok ((.f, .bool true), []) := by
  obtain ⟨n, rfl⟩ : ∃ n, k = n + 1 := ⟨k - 1, by omega⟩
  rw [clN_go (rfl : tab 28 = some ⟨4, 6, [], noEx c28⟩) rfl]
  have hd0 : PyData.str "" = str [] := rfl
  have e23 := sp23 n (by omega) w x (by omega) (by omega) ax.gt (La_abc aw)
  have e7 := p7k n (by omega) w x hw hx ax
  have e8 := p8k n (by omega) w x hw hx ax
  have e26 : clN tab n 26 [(.f, str w), (.f, str x)] = .ok ((.f, .tuple (nums (SN w x))), []) := sp26 n (by omega) w x (by omega) (by omega)
  have i1 := sp18 2 n _ (by omega) (pl_rgs w x hx)
  have i2 := sp18 0 n (subD (rg (w ++ [46]) x)) (by omega) rfl
  have hl : fIx [.tuple ((rgs (w ++ [46]) x).map prD), .int (-1)] = some (.f, .tuple [.int ((rg (w ++ [46]) x).1 : Int), .int ((rg (w ++ [46]) x).2 : Int)]) := by
    rw [o_ixT, atI_m1, rgs_last]
    rfl
  have j1 : fIx [.tuple [.int ((rg (w ++ [46]) x).1 : Int), .int ((rg (w ++ [46]) x).2 : Int)], .int 1] = some (.f, .int ((rg (w ++ [46]) x).2 : Int)) := rfl
  have j0 : fIx [.tuple [.int ((rg (w ++ [46]) x).1 : Int), .int ((rg (w ++ [46]) x).2 : Int)], .int 0] = some (.f, .int ((rg (w ++ [46]) x).1 : Int)) := rfl
  obtain ⟨b0, hb0, _⟩ := eqI_b way 0
  obtain ⟨b1, hb1, _⟩ := eqI_b way 1
  unfold subD at *
  by_cases hn : x = []
  · have f1 := eqS_t hn
    clear hn hk
    generalize (rgs (w ++ [46]) x).map prD = RR at *
    generalize ((rg (w ++ [46]) x).1 : Int) = p1 at *
    generalize ((rg (w ++ [46]) x).2 : Int) = p2 at *
    generalize La (w ++ [46]) = LL at *
    generalize clN tab n = cl at *
    cases b0 <;> cases b1 <;> simp [-o_ixT, c28, hd0, e23, e7, e8, hb0, hb1, i1, i2, hl, j1, j0, f1]
  · have f1 := eqS_f hn
    have e9 := p9k n (by omega) w x hw aw hx ax hn
    have i3 := sp19 n (by omega) (stands w x) (by have := stands_len w x; omega)
    have hs : SN w x = stands w x := stands_n hn
    rw [hs] at e26
    clear hn hk hs
    generalize (rgs (w ++ [46]) x).map prD = RR at *
    generalize ((rg (w ++ [46]) x).1 : Int) = p1 at *
    generalize ((rg (w ++ [46]) x).2 : Int) = p2 at *
    generalize La (w ++ [46]) = LL at *
    generalize nums (stands w x) = NN at *
    generalize clN tab n = cl at *
    cases b0 <;> cases b1 <;> simp [-o_ixT, c28, hd0, e23, e7, e8, hb0, hb1, i1, i2, hl, j1, j0, f1, e9, e26, i3]
def bd29 : CS := (cIf (ctOr (ctAnd (ctE (.n 11)) (ctB (cOp (fEqM true) [.v (cOp fIx [.n 7, .v (cOp fAdd [.n 10, .v (cK (.int 1))])]), .v (cOp fSub [.v (cOp fIx [.n 7, .n 10]), .v (cK (.int 1))])]))) (ctAnd (ctNot (ctE (.n 11))) (ctB (cOp (fIn true) [.v (cOp fIx [.n 7, .v (cOp fAdd [.n 10, .v (cK (.int 1))])]), .n 9])))) (cRet (cK (.bool false))) cNx)
theorem eq_nil (l : List Nat) : ∃ b, fEqM false [.tuple (nums l), .tuple []] = some (.f, .bool b) ∧ (b = true ↔ l = []) := by
  cases l with
  | nil => exact ⟨true, eqN [], by simp⟩
  | cons a l =>
    refine ⟨false, ?_, by simp⟩
    show (if min (PyData.tuple (nums (a :: l))).depth (PyData.tuple []).depth ≤ 64 then some (Ow.f, PyData.bool (false != PyData.eqv (.tuple (nums (a :: l))) (.tuple []))) else none) = _
    rw [if_pos (by simp [PyData.depth, nums_dep])]
    rfl
theorem sp29 (k : Nat) (hk : 6 ≤ k) (w x : List Nat) (hw : w.length ≤ 100) (aw : Abc w) (hx : x.length ≤ 100) (ax : Abc x) (way : Int) : clN tab k 29 [(.f, str w), (.f, .list (nums (atl w))), (.f, str (La (w ++ [46]))), (.f, str x), (.f, .int way)] = .ok ((.f, .bool true), []) := by
  obtain ⟨n, rfl⟩ : ∃ n, k = n + 1 := ⟨k - 1, by omega⟩
  have hd0 : PyData.str "" = str [] := rfl
  have e23 := sp23 n (by omega) w x (by omega) (by omega) ax.gt (La_abc aw)
  have e24 := sp24 n (by omega) w x (by omega) (by omega)
  have e12 := p12k n (by omega) w x hw aw hx ax
  have e13 := p13k n (by omega) w x hw aw hx ax
  have hkp := kp_len w x
  have hkm := km_len w x
  have hkn := kn_le w x
  have i1 := sp19 n (by omega) (kp w x) (by omega)
  have i2 := sp18 1 n _ (by omega) (pl_km w x hx)
  have e25 := sp25 n (by omega) w (by omega)
  have e26 : clN tab n 26 [(.f, str w), (.f, str x)] = .ok ((.f, .tuple (nums (SN w x))), []) := sp26 n (by omega) w x (by omega) (by omega)
  obtain ⟨b0, hb0, _⟩ := eqI_b way 0
  obtain ⟨b1, hb1, _⟩ := eqI_b way 1
  have enm : ∀ a, a ∈ srt leN (EN w) ↔ a ∈ EN w := fun a => (srt_perm leN _).mem_iff
  -- the loop
  have hf : ∀ (r : List (PyData × Nat)) (z10 z11 : Option Vl), nl z10 = true → nl z11 = true → (∀ q ∈ r, q ∈ (km w x).zipIdx) → ∃ y10 y11, forL (.t [(.n 10), (.n 11)]) bd29 (clN tab n) (r.map fun q => PyData.tuple [.int (q.2 : Int), q.1]) [some (.f, str w), some (.f, .list (nums (atl w))), some (.f, str (La (w ++ [46]))), some (.f, str x), some (.f, .int way), some (.f, .tuple (nums (kp w x))), some (.f, .tuple (km w x)), some (.f, .tuple (nums (kp w x))), some (.f, .tuple (km w x)), some (.f, .tuple (nums (srt leN (EN w)))), z10, z11, none] =
      .ok ([some (.f, str w), some (.f, .list (nums (atl w))), some (.f, str (La (w ++ [46]))), some (.f, str x), some (.f, .int way), some (.f, .tuple (nums (kp w x))), some (.f, .tuple (km w x)), some (.f, .tuple (nums (kp w x))), some (.f, .tuple (km w x)), some (.f, .tuple (nums (srt leN (EN w)))), y10, y11, none], .nx) := by
    intro r
    induction r with
    | nil => intro z10 z11 _ _ _; exact ⟨z10, z11, rfl⟩
    | cons q r ih =>
      intro z10 z11 h10 h11 hr
      have hq := hr q (List.mem_cons_self ..)
      obtain ⟨q1, t⟩ := q
      rw [List.mk_mem_zipIdx_iff_getElem?] at hq
      have htl := (List.getElem?_eq_some_iff.mp hq).1
      obtain ⟨b, a, a', m1, m2, m3, m4, m5, _⟩ := move_ok (w := w) (x := x) aw.gt ax.gt (t := t) (by omega)
      rw [hq] at m1
      cases m1
      obtain ⟨y10, y11, h⟩ := ih (some (.f, .int (t : Int))) (some (.f, .bool b)) rfl rfl (fun p hp => hr p (List.mem_cons_of_mem _ hp))
      refine ⟨y10, y11, ?_⟩
      have j0 : fIx [.tuple (nums (kp w x)), .int (t : Int)] = some (.f, .int (a : Int)) := by
        rw [o_ixT, atI_nat, nums_get, m2]
        rfl
      have j1 : fIx [.tuple (nums (kp w x)), .int ((t : Int) + 1)] = some (.f, .int (a' : Int)) := by
        rw [show (t : Int) + 1 = ((t + 1 : Nat) : Int) by omega, o_ixT, atI_nat, nums_get, m3]
        rfl
      rw [List.map_cons, forL]
      cases b with
      | true =>
        have f1 : fEqM true [.int (a' : Int), .int ((a : Int) - 1)] = some (.f, .bool false) := by
          have := m4 rfl
          rw [o_eqI, decide_eq_true (by omega)]
          rfl
        clear m4 m5 m2 m3 hq htl ih hkp hkm hkn i1 i2 enm
        generalize nums (kp w x) = A1 at *
        generalize km w x = A2 at *
        generalize nums (srt leN (EN w)) = A3 at *
        generalize nums (atl w) = A4 at *
        generalize La (w ++ [46]) = A5 at *
        generalize clN tab n = cl at *
        generalize (a : Int) = ai at *
        generalize (a' : Int) = ai' at *
        generalize (t : Int) = ti at *
        simp [-o_ixT, h10, h11, bd29, j0, j1, f1]
        exact h
      | false =>
        have f1 : fIn true [.int (a' : Int), .tuple (nums (srt leN (EN w)))] = some (.f, .bool false) := by
          have := (enm a').mpr (m5 rfl)
          have e := o_inT (ne := true) (k := a') (l := srt leN (EN w))
          rw [decide_eq_true this] at e
          exact e
        clear m4 m5 m2 m3 hq htl ih hkp hkm hkn i1 i2 enm
        generalize nums (kp w x) = A1 at *
        generalize km w x = A2 at *
        generalize nums (srt leN (EN w)) = A3 at *
        generalize nums (atl w) = A4 at *
        generalize La (w ++ [46]) = A5 at *
        generalize clN tab n = cl at *
        generalize (a : Int) = ai at *
        generalize (a' : Int) = ai' at *
        generalize (t : Int) = ti at *
        simp [-o_ixT, h10, h11, bd29, j0, j1, f1]
        exact h
  obtain ⟨y10, y11, hF⟩ := hf (km w x).zipIdx none none rfl rfl (fun q h => h)
  have hG := for_n (cl := clN tab n) (i := 8) (f := itE) (e := [some (.f, str w), some (.f, .list (nums (atl w))), some (.f, str (La (w ++ [46]))), some (.f, str x), some (.f, .int way), some (.f, .tuple (nums (kp w x))), some (.f, .tuple (km w x)), some (.f, .tuple (nums (kp w x))), some (.f, .tuple (km w x)), some (.f, .tuple (nums (srt leN (EN w)))), none, none, none]) (d := .tuple (km w x)) rfl (by rw [i_ET, enum0]) hF
  rw [clN_go (rfl : tab 29 = some ⟨5, 13, [], noEx c29⟩) rfl]
  unfold bd29 at hG
  clear hf hF
  obtain ⟨bn, hbn, hbni⟩ := eq_nil (SN w x)
  have hxl := o_len (l := x) (by omega)
  have hkl : fLen [.tuple (nums (kp w x))] = some (.f, .int (kn w x : Int)) := by rw [o_lenT, nums_len, hkp]
  by_cases hn : x = []
  · have f1 := eqS_t hn
    clear hn hk enm hbni hkp hkm hkn
    generalize (rgs (w ++ [46]) x).map prD = RR at *
    generalize nums (kp w x) = A1 at *
    generalize km w x = A2 at *
    generalize nums (srt leN (EN w)) = A3 at *
    generalize nums (atl w) = A4 at *
    generalize La (w ++ [46]) = A5 at *
    generalize nums (SN w x) = A6 at *
    generalize clN tab n = cl at *
    cases b0 <;> cases b1 <;> simp [-o_ixT, c29, hd0, e23, e24, e12, e13, hb0, hb1, i1, i2, e25, hG, e26, f1]
  · have f1 := eqS_f hn
    have hs : SN w x = stands w x := stands_n hn
    cases bn with
    | true =>
      have hempty := hbni.mp rfl
      rw [hs] at hempty
      have hsh := kn_short w x (stands_none hn ax.gt hempty)
      have f2 : fLe [.int (kn w x : Int), .int (x.length : Int)] = some (.f, .bool true) := by rw [o_leI, decide_eq_true (by omega)]
      clear hn hk enm hbni hkp hkm hkn hs hempty hsh
      generalize (rgs (w ++ [46]) x).map prD = RR at *
      generalize nums (kp w x) = A1 at *
      generalize km w x = A2 at *
      generalize nums (srt leN (EN w)) = A3 at *
      generalize nums (atl w) = A4 at *
      generalize La (w ++ [46]) = A5 at *
      generalize nums (SN w x) = A6 at *
      generalize clN tab n = cl at *
      generalize (kn w x : Int) = kz at *
      generalize (x.length : Int) = xz at *
      cases b0 <;> cases b1 <;> simp [-o_ixT, -o_leI, -o_lenT, c29, hd0, e23, e24, e12, e13, hb0, hb1, i1, i2, e25, hG, e26, f1, hbn, hkl, hxl, f2]
    | false =>
      have hne : stands w x ≠ [] := by
        intro e
        rw [hs] at hbni
        have := hbni.mpr e
        cases this
      have hr := stands_some hn ax.gt hne
      have hfull := kn_full w x ax.gt hr
      have hp := List.length_pos_iff.mpr hn
      obtain ⟨_, a, a', _, _, m3, _, _, m6⟩ := move_ok (w := w) (x := x) aw.gt ax.gt (t := 0) (by omega)
      have f2 : fEqM false [.int (kn w x : Int), .int ((x.length : Int) + 1)] = some (.f, .bool true) := eqI_t (by omega)
      have j1 : fIx [.tuple (nums (kp w x)), .int 1] = some (.f, .int (a' : Int)) := by
        rw [o_ixT, show (1 : Int) = ((0 + 1 : Nat) : Int) from rfl, atI_nat, nums_get, m3]
        rfl
      have f3 : fIn false [.int (a' : Int), .tuple (nums (srt leN (EN w)))] = some (.f, .bool true) := by
        have := (enm a').mpr (m6 rfl)
        have e := o_inT (ne := false) (k := a') (l := srt leN (EN w))
        rw [decide_eq_true this] at e
        exact e
      have hlast := kp_get (w := w) (x := x) (t := x.length) (by omega)
      rw [Nat.sub_self, List.drop_zero] at hlast
      have hst := last_stands hn ax.gt hr
      rw [← hs] at hst
      generalize (at_ w).getD ((rg (w ++ [46]) x).2 - 1) 0 = z at *
      have j2 : fIx [.tuple (nums (kp w x)), .int (-1)] = some (.f, .int (z : Int)) := by
        rw [o_ixT, atI_m1, nums_last, List.getLast?_eq_getElem?, hkp, hfull, Nat.add_sub_cancel, hlast]
        rfl
      have f4 : fIn false [.int (z : Int), .tuple (nums (SN w x))] = some (.f, .bool true) := by
        have e := o_inT (ne := false) (k := z) (l := SN w x)
        rw [decide_eq_true hst] at e
        exact e
      clear hn hk enm hbni hkp hkm hkn hs hne hr hfull hlast hst m3 m6 hp
      generalize (rgs (w ++ [46]) x).map prD = RR at *
      generalize nums (kp w x) = A1 at *
      generalize km w x = A2 at *
      generalize nums (srt leN (EN w)) = A3 at *
      generalize nums (atl w) = A4 at *
      generalize La (w ++ [46]) = A5 at *
      generalize nums (SN w x) = A6 at *
      generalize clN tab n = cl at *
      generalize (kn w x : Int) = kz at *
      generalize (x.length : Int) = xz at *
      generalize (a' : Int) = az at *
      generalize (z : Int) = zz at *
      cases b0 <;> cases b1 <;> simp [-o_ixT, -o_leI, -o_lenT, c29, hd0, e23, e24, e12, e13, hb0, hb1, i1, i2, e25, hG, e26, f1, hbn, hkl, hxl, f2, j1, f3, j2, f4]
end G
end

section
set_option Elab.async false
set_option linter.all false
set_option maxRecDepth 100000
set_option maxHeartbeats 1000000
namespace G
open PySem Ev B
def rk (L : List Nat) (c : Nat) : List Nat := (List.range (L.length + 1)).map fun i => (L.take i).count c
theorem rk_snoc (L : List Nat) (t c : Nat) : rk (L ++ [t]) c = rk L c ++ [(L ++ [t]).count c] := by
  unfold rk
  rw [List.length_append, List.length_singleton, List.range_succ (n := L.length + 1), List.map_append]
  congr 1
  · refine List.map_congr_left fun i hi => ?_
    have := List.mem_range.mp hi
    rw [List.take_append_of_le_length (by omega)]
  · rw [List.map_cons, List.map_nil, List.take_of_length_le (by simp)]
theorem rk_len (L : List Nat) (c : Nat) : (rk L c).length = L.length + 1 := by
  unfold rk
  rw [List.length_map, List.length_range]
theorem p10k (k : Nat) (hk : 1 ≤ k) (L : List Nat) (c : Nat) (hL : L.length ≤ 5000) : clN tab k 10 [(.f, str L), (.f, str [c])] = .ok ((.f, .tuple (nums (rk L c))), []) := by
  obtain ⟨n, rfl⟩ : ∃ n, k = n + 1 := ⟨k - 1, by omega⟩
  rw [sp10 n L c hL, rk, nums_map]
def bd30 : CS := (cSq (cPar [3, 4] [(cLst [(cK (.int 0))]), (cK (.int 0))])
  (cSq (cFor ⟨[.n 1], itV⟩ (.n 5) (cSq (cAsg 4 (cOp fAdd [.n 4, .v (cIfE (ctB (cOp (fEqM false) [.n 5, .n 2])) (cK (.int 1)) (cK (.int 0)))]))
  (cDo (cMut muApp 3 [.v (cVar 4)]))))
  (cSq (cAsg 6 (cIfE (ctB (cOp (fEqM false) [.v (cCall 16 [(0, 0)] [.n 0, .v (cK (.int 2))]), .v (cK (.int 0))])) (cCall 10 [] [.v (cVar 1), .v (cVar 2)]) (cCallK 10 [0, 1] [(cVar 1), (cVar 2)])))
  (cIf (ctNot (ctE (.v (cCall 19 [] [.v (cVar 6), .v (cOp fTuple [.n 3])])))) (cRet (cK (.bool false))) cNx))))
def bd30b : CS := (cSq (cAsg 4 (cOp fAdd [.n 4, .v (cIfE (ctB (cOp (fEqM false) [.n 5, .n 2])) (cK (.int 1)) (cK (.int 0)))]))
  (cDo (cMut muApp 3 [.v (cVar 4)])))
theorem lp30 (cl : Cl) (L : List Nat) (hL : L.length ≤ 1000) (s : Nat) (bg : PyData) (z6 : Option Vl) : ∀ (r pre : List Nat) (z5 : Option Vl), pre ++ r = L → nl z5 = true → ∃ y5, nl y5 = true ∧ forL (.n 5) bd30b cl (r.map fun c => str [c]) [some (.b, bg), some (.f, str L), some (.f, str [s]), some (.o, .list (nums (rk pre s))), some (.f, .int (pre.count s : Nat)), z5, z6] =
    .ok ([some (.b, bg), some (.f, str L), some (.f, str [s]), some (.o, .list (nums (rk L s))), some (.f, .int (L.count s : Nat)), y5, z6], .nx)
  | [], pre, z5, e, h5 => by
    rw [List.append_nil] at e
    subst e
    exact ⟨z5, h5, rfl⟩
  | t :: r, pre, z5, e, h5 => by
    have e' : pre ++ [t] ++ r = L := by rw [← e]; simp
    obtain ⟨y5, hy, h⟩ := lp30 cl L hL s bg z6 r (pre ++ [t]) (some (.f, str [t])) e' rfl
    refine ⟨y5, hy, ?_⟩
    have hlen : pre.length ≤ 1000 := by
      have := congrArg List.length e
      simp at this
      omega
    have hap : (nums (rk pre s)).length < 16777216 := by
      rw [nums_len, rk_len]
      omega
    have er : nums (rk (pre ++ [t]) s) = nums (rk pre s) ++ [.int ((pre ++ [t]).count s : Nat)] := by
      rw [rk_snoc, nums_app]
      rfl
    rw [er] at h
    rw [List.map_cons, forL]
    by_cases hts : t = s
    · have f1 := eqS_t (a := [t]) (b := [s]) (by rw [hts])
      have hc : ((pre ++ [t]).count s : Int) = (pre.count s : Int) + 1 := by
        rw [List.count_append, hts]
        simp
      rw [hc] at h
      clear hts er hc e e' hlen
      generalize nums (rk pre s) = N at *
      generalize nums (rk L s) = N2 at *
      generalize ((pre.count s : Nat) : Int) = pc at *
      generalize ((L.count s : Nat) : Int) = lc at *
      simp [h5, bd30b, f1, hap]
      exact h
    · have f1 := eqS_f (a := [t]) (b := [s]) (by simpa using hts)
      have hc : ((pre ++ [t]).count s : Int) = (pre.count s : Int) := by
        rw [List.count_append]
        simp [hts]
      rw [hc] at h
      clear hts er hc e e' hlen
      generalize nums (rk pre s) = N at *
      generalize nums (rk L s) = N2 at *
      generalize ((pre.count s : Nat) : Int) = pc at *
      generalize ((L.count s : Nat) : Int) = lc at *
      simp [h5, bd30b, f1, hap]
      exact h
theorem sp30 (k : Nat) (hk : 3 ≤ k) (gs : List Int) (x mm : Int) (L : List Nat) (hL : L.length ≤ 1000) : ∃ gs' x' mm', clN tab k 30 [(.b, BagD gs x mm), (.f, str L)] = .ok ((.f, .bool true), [(.b, BagD gs' x' mm')]) := by
  obtain ⟨n, rfl⟩ : ∃ n, k = n + 1 := ⟨k - 1, by omega⟩
  have hd : PyData.str "abcd" = str [97, 98, 99, 100] := rfl
  obtain ⟨e', ⟨gs', x', mm', z2, z3, z4, z5, z6, _, _, _, _, _, rfl⟩, hf⟩ := forL_inv (cl := clN tab n) (tg := .n 2) (body := bd30) (fun (c : Nat) => str [c])
    (fun _ e => ∃ gs x mm z2 z3 z4 z5 z6, nl z2 = true ∧ nl z3 = true ∧ nl z4 = true ∧ nl z5 = true ∧ nl z6 = true ∧ e = [some (.b, BagD gs x mm), some (.f, str L), z2, z3, z4, z5, z6]) (by
      rintro s r e ⟨gs, x, mm, z2, z3, z4, z5, z6, h2, h3, h4, h5, h6, rfl⟩
      refine ⟨[some (.b, BagD gs x mm), some (.f, str L), some (.f, str [s]), z3, z4, z5, z6], by simp [h2], ?_⟩
      obtain ⟨y5, hy5, hl⟩ := lp30 (clN tab n) L hL s (BagD gs x mm) z6 L [] z5 rfl h5
      obtain ⟨g1, x1, m1, d, _, E1⟩ := sp16 n (by omega) gs x mm 2 2 rfl (by omega) (by omega)
      obtain ⟨b, hb, _⟩ := eqI_b (d : Int) 0
      have e10 := p10k n (by omega) L s (by omega)
      have e19 := sp19 n (by omega) (rk L s) (by rw [rk_len]; omega)
      have e0 : nums (rk [] s) = [.int 0] := rfl
      have e00 : (([] : List Nat).count s : Int) = 0 := rfl
      rw [e0, e00] at hl
      have hG := for_n (cl := clN tab n) (i := 1) (f := itV) (e := [some (.b, BagD gs x mm), some (.f, str L), some (.f, str [s]), some (.o, .list [.int 0]), some (.f, .int 0), z5, z6]) (d := str L) rfl i_strV hl
      refine ⟨[some (.b, BagD g1 x1 m1), some (.f, str L), some (.f, str [s]), some (.o, .list (nums (rk L s))), some (.f, .int (L.count s : Nat)), y5, some (.f, .tuple (nums (rk L s)))], ?_, ⟨g1, x1, m1, _, _, _, _, _, rfl, rfl, rfl, hy5, rfl, rfl⟩⟩
      unfold bd30b at hG
      clear hl e0
      generalize nums (rk L s) = N at *
      generalize clN tab n = cl at *
      generalize ((L.count s : Nat) : Int) = lc at *
      cases b <;> simp [bd30, h3, h4, hG, E1, hb, e10, e19, h6])
    [97, 98, 99, 100] [some (.b, BagD gs x mm), some (.f, str L), none, none, none, none, none] ⟨gs, x, mm, none, none, none, none, none, rfl, rfl, rfl, rfl, rfl, rfl⟩
  have hF := for_v (cl := clN tab n) (c := cK (str [97, 98, 99, 100])) (f := itV) (it_v (e := [some (.b, BagD gs x mm), some (.f, str L), none, none, none, none, none]) (ow := .f) (d := str [97, 98, 99, 100]) rfl i_strV) hf
  refine ⟨gs', x', mm', ?_⟩
  rw [clN_go (rfl : tab 30 = some ⟨2, 7, [0], noEx c30⟩) rfl]
  unfold bd30 at hF
  generalize clN tab n = cl at *
  simp only [c30, hd, s_sq, List.map_cons, List.map_nil, List.cons_append, List.nil_append, List.replicate]
  simp [hF]
end G
end

section
set_option Elab.async false
set_option linter.all false
set_option maxRecDepth 100000
set_option maxHeartbeats 1000000
namespace G
open PySem Ev B
def w0 : List Nat := [97, 98, 97, 100, 97, 98, 97, 99]
def a0 : List Nat := [99, 100, 46, 98, 98, 97, 97, 97, 97]
theorem k_a : La (w0 ++ [46]) = a0 := by decide
theorem k_at : atl w0 = [8, 4, 0, 6, 2, 5, 1, 7, 3] := by decide
theorem k_r1 : rgs (w0 ++ [46]) [97, 98, 97] = [(0, 9), (1, 5), (5, 7), (1, 3)] := by decide
theorem k_r2 : rgs (w0 ++ [46]) [100, 99] = [(0, 9), (7, 8), (9, 9)] := by decide
theorem k_s1 : stands w0 [97, 98] = [0, 4] := by decide
theorem k_s2 : stands w0 [99, 99] = [] := by decide
theorem k_rk : rk a0 97 = [0, 0, 0, 0, 0, 0, 1, 2, 3, 4] := by decide
theorem k_1 : rg (w0 ++ [46]) [97] = (1, 5) := by decide
theorem k_2 : rg (w0 ++ [46]) [97, 98] = (1, 3) := by decide
theorem k_3 : rg (w0 ++ [46]) [98, 97, 100] = (6, 7) := by decide
theorem k_4 : (rg (w0 ++ [46]) [99, 99]).1 = (rg (w0 ++ [46]) [99, 99]).2 := by decide
theorem k_5 : rg (w0 ++ [46]) [] = (0, 9) := by decide
theorem k_p1 : kp w0 [97, 98, 97] = [3, 2, 1, 0] := by decide
theorem k_p2 : kp w0 [100, 97, 98] = [3, 1, 0, 3] := by decide
theorem k_p3 : kp w0 [100, 99] = [3, 7] := by decide
theorem k_p4 : kp [] [97] = [0] := by decide
theorem k_ke1 : ke (rgs (w0 ++ [46]) [97, 98, 97]) = [9, 5, 7, 3] := by decide
theorem k_ke2 : ke (rgs (w0 ++ [46]) [100, 97, 98]) = [9, 7, 3, 9] := by decide
theorem k_m1 : km w0 [97, 98, 97] = [.bool true, .bool true, .bool true] := by
  unfold km
  rw [k_ke1]
  rw [show mv w0 [97, 98, 97] = fun q => PyData.bool (decide (a0.getD (q.1 - 1) 0 = ([97, 98, 97] : List Nat).getD (3 - 1 - q.2) 0)) from by
    funext q
    unfold mv
    rw [k_a]
    rfl]
  rfl
theorem k_m2 : km w0 [100, 97, 98] = [.bool false, .bool true, .bool false] := by
  unfold km
  rw [k_ke2]
  rw [show mv w0 [100, 97, 98] = fun q => PyData.bool (decide (a0.getD (q.1 - 1) 0 = ([100, 97, 98] : List Nat).getD (3 - 1 - q.2) 0)) from by
    funext q
    unfold mv
    rw [k_a]
    rfl]
  rfl
theorem p0k (k : Nat) (hk : 1 ≤ k) (w : List Nat) (hw : w.length ≤ 100) : clN tab k 0 [(.f, str w)] = .ok ((.f, .tuple (nums (atl w))), []) := by
  obtain ⟨n, rfl⟩ : ∃ n, k = n + 1 := ⟨k - 1, by omega⟩
  exact sp0' n w (by omega)
theorem sp31 (k : Nat) (hk : 6 ≤ k) : clN tab k 31 [] = .ok ((.f, .bool true), []) := by
  obtain ⟨n, rfl⟩ : ∃ n, k = n + 1 := ⟨k - 1, by omega⟩
  have aw : Abc w0 := by
    intro c hc
    simp [w0] at hc
    omega
  have hl : w0.length ≤ 100 := by decide
  have s1 : PyData.str "cd.bbaaaa" = str a0 := rfl
  have s2 : PyData.str "abadabac" = str w0 := rfl
  have s3 : PyData.str "aba" = str [97, 98, 97] := rfl
  have s4 : PyData.str "dc" = str [100, 99] := rfl
  have s5 : PyData.str "ab" = str [97, 98] := rfl
  have s6 : PyData.str "cc" = str [99, 99] := rfl
  have s7 : PyData.str "a" = str [97] := rfl
  have s8 : PyData.str "bad" = str [98, 97, 100] := rfl
  have s9 : PyData.str "" = str [] := rfl
  have s10 : PyData.str "dab" = str [100, 97, 98] := rfl
  have e7a := p7k n (by omega) w0 [97, 98, 97] hl (by decide) (abcB _ rfl)
  rw [k_a, k_r1] at e7a
  have e7b := p7k n (by omega) w0 [100, 99] hl (by decide) (abcB _ rfl)
  rw [k_a, k_r2] at e7b
  have e9a := p9k n (by omega) w0 [97, 98] hl aw (by decide) (abcB _ rfl) (by decide)
  rw [k_a, k_s1] at e9a
  have e9b := p9k n (by omega) w0 [99, 99] hl aw (by decide) (abcB _ rfl) (by decide)
  rw [k_a, k_s2] at e9b
  have e10 := p10k n (by omega) a0 97 (by decide)
  rw [k_rk] at e10
  have e12a := p12k n (by omega) w0 [97, 98, 97] hl aw (by decide) (abcB _ rfl)
  rw [k_p1] at e12a
  have e12b := p12k n (by omega) w0 [100, 97, 98] hl aw (by decide) (abcB _ rfl)
  rw [k_p2] at e12b
  have e12c := p12k n (by omega) w0 [100, 99] hl aw (by decide) (abcB _ rfl)
  rw [k_p3] at e12c
  have e12d := p12k n (by omega) [] [97] (by decide) (abcB _ rfl) (by decide) (abcB _ rfl)
  rw [k_p4] at e12d
  have e13a := p13k n (by omega) w0 [97, 98, 97] hl aw (by decide) (abcB _ rfl)
  rw [k_m1] at e13a
  have e13b := p13k n (by omega) w0 [100, 97, 98] hl aw (by decide) (abcB _ rfl)
  rw [k_m2] at e13b
  have e8 : ∀ p : List Nat, p.length ≤ 100 → Abc p → clN tab n 8 [(.f, str a0), (.f, str p)] = .ok ((.f, subD (rg (w0 ++ [46]) p)), []) := by
    intro p h1 h2
    have := p8k n (by omega) w0 p hl h1 h2
    rwa [k_a] at this
  have hc := fun (z1 : Option Vl) => lc_all (cl := clN tab n) (e := [some (.f, str a0), z1, none]) (as := [.v (cTup [(cK (.str "a")), (cK (.str "ab")), (cK (.str "bad")), (cK (.str "cc")), (cK (.str ""))])]) (f := itV) (tg := .n 2) (own := [2]) (c := cCall 8 [] [.v (cVar 0), .v (cVar 2)]) [[97], [97, 98], [98, 97, 100], [99, 99], []] str (fun p => subD (rg (w0 ++ [46]) p))
    (it_v (ow := .f) (d := .tuple [str [97], str [97, 98], str [98, 97, 100], str [99, 99], str []]) (by simp [s5, s6, s7, s8, s9]) i_tupV) (by rw [s_lkv, s_lk0]) (by decide) (by simp) (fun p hp => by
      have ap : Abc p ∧ p.length ≤ 100 := by
        simp only [List.mem_cons, List.not_mem_nil, or_false] at hp
        rcases hp with rfl | rfl | rfl | rfl | rfl <;> exact ⟨abcB _ rfl, by simp⟩
      have e := e8 p ap.2 ap.1
      generalize subD (rg (w0 ++ [46]) p) = sd at *
      generalize clN tab n = cl at *
      generalize a0 = A at *
      simp [lcStep, e])
  have ev : ([[97], [97, 98], [98, 97, 100], [99, 99], []] : List (List Nat)).map (fun p => subD (rg (w0 ++ [46]) p)) = [.int 4, .int 2, .int 1, .int 0, .int 9] := by
    simp only [List.map_cons, List.map_nil]
    rw [k_1, k_2, k_3, k_5]
    rw [show subD (rg (w0 ++ [46]) [99, 99]) = .int 0 by rw [subD, k_4, Int.sub_self]]
    rfl
  rw [ev, s5, s6, s7, s8, s9] at hc
  have i1 := sp18 3 n (.tuple [.tuple ([(0, 9), (1, 5), (5, 7), (1, 3)].map prD), .tuple ([(0, 9), (7, 8), (9, 9)].map prD)]) (by omega) rfl
  have i2 := sp18 1 n (.tuple [.int 4, .int 2, .int 1, .int 0, .int 9]) (by omega) rfl
  have i3 := sp18 1 n (.tuple (nums [0, 4])) (by omega) rfl
  have i4 := sp18 2 n (.tuple [.tuple (nums []), .tuple (nums [0, 0, 0, 0, 0, 0, 1, 2, 3, 4])]) (by omega) rfl
  have i5 := sp18 2 n (.tuple [.tuple (nums [3, 2, 1, 0]), .tuple [.bool true, .bool true, .bool true], .tuple (nums [3, 1, 0, 3])]) (by omega) rfl
  have i6 := sp18 2 n (.tuple [.tuple [.bool false, .bool true, .bool false], .tuple (nums [3, 7]), .tuple (nums [0])]) (by omega) rfl
  rw [clN_go (rfl : tab 31 = some ⟨0, 3, [], noEx c31⟩) rfl]
  clear e8 aw hl ev
  generalize clN tab n = cl at *
  generalize a0 = A at *
  generalize w0 = W at *
  simp only [nums, prD, List.map_cons, List.map_nil] at *
  simp only [show ((0 : Nat) : Int) = 0 from rfl, show ((1 : Nat) : Int) = 1 from rfl, show ((2 : Nat) : Int) = 2 from rfl, show ((3 : Nat) : Int) = 3 from rfl, show ((4 : Nat) : Int) = 4 from rfl, show ((5 : Nat) : Int) = 5 from rfl, show ((6 : Nat) : Int) = 6 from rfl, show ((7 : Nat) : Int) = 7 from rfl, show ((8 : Nat) : Int) = 8 from rfl, show ((9 : Nat) : Int) = 9 from rfl] at *
  simp [c31, s1, s2, s3, s4, s5, s6, s7, s8, s9, s10, e7a, e7b, e9a, e9b, e10, e12a, e12b, e12c, e12d, e13a, e13b, hc, i1, i2, i3, i4, i5, i6]
end G
end

section
set_option Elab.async false
set_option linter.all false
set_option maxRecDepth 100000
set_option maxHeartbeats 1000000
namespace G
open PySem Ev B
def q32a : CS := (cIf (ctB (cOp fGt [.n 4, .v (cK (.int 0))])) (cSq (cAsg 5 (cCall 17 [(1, 0)] [.n 1, .v (cLst [(cOp fSub [.n 4, .v (cK (.int 1))]), (cCall 16 [(1, 0)] [.n 1, .v (cVar 4)]), (cCall 16 [(1, 0)] [.n 1, .v (cVar 4)])])]))
  (cAsg 3 (cOp fAdd [.v (cOp fAdd [.v (cOp fSlB [.n 2, .v (cInt (cVar 5))]), .v (cCall 17 [(1, 0)] [.n 1, .v (cLC ⟨[.v (cK (.str "abcd"))], itV⟩ (.n 6) [6] (ctB (cOp (fEqM true) [.n 6, .v (cOp fIx [.n 2, .n 5])])) (cVar 6))])]), .v (cOp fSlA [.n 2, .v (cInt (cOp fAdd [.n 5, .v (cK (.int 1))]))])]))) cNx)
def q32d : CS := (cIf (ctB (cOp (fIn false) [.n 11, .v (cTup [(cK (.int 0)), (cK (.int 2))])])) (cIf (ctOr (ctNot (ctE (.v (cCall 28 [] [.v (cVar 3), .v (cVar 10), .v (cVar 12), .v (cVar 13)])))) (ctNot (ctE (.v (cCall 29 [] [.v (cVar 3), .v (cVar 8), .v (cVar 10), .v (cVar 12), .v (cVar 13)]))))) (cRet (cK (.bool false))) cNx) cNx)
def q32e : CS := (cIf (ctB (cOp (fEqM false) [.n 11, .v (cK (.int 5))])) (cSq (cAsg 12 (cOp fSlA [.n 12, .v (cInt (cOp fNeg [.v (cK (.int 7))]))]))
  (cSq (cIf (ctNot (ctE (.v (cCall 28 [] [.v (cVar 2), .v (cVar 9), .v (cVar 12), .v (cOp fSub [.v (cK (.int 1)), .n 13])])))) (cRet (cK (.bool false))) cNx)
  (cSq (cIf (ctNot (ctE (.v (cCall 28 [] [.v (cVar 2), .v (cVar 9), .v (cVar 12), .v (cVar 13)])))) (cRet (cK (.bool false))) cNx)
  (cSq (cIf (ctNot (ctE (.v (cCall 29 [] [.v (cVar 2), .v (cVar 7), .v (cVar 9), .v (cVar 12), .v (cOp fSub [.v (cK (.int 1)), .n 13])])))) (cRet (cK (.bool false))) cNx)
  (cIf (ctNot (ctE (.v (cCall 29 [] [.v (cVar 2), .v (cVar 7), .v (cVar 9), .v (cVar 12), .v (cVar 13)])))) (cRet (cK (.bool false))) cNx))))) cNx)
def bd32 : CS := (cSq (cPar [12, 13] [(cCall 27 [(1, 0)] [.n 1, .v (cVar 2), .v (cVar 11)]), (cCall 16 [(1, 0)] [.n 1, .v (cK (.int 2))])])
  (cSq (cIf (ctNot (ctE (.v (cCall 28 [] [.v (cVar 2), .v (cVar 9), .v (cVar 12), .v (cVar 13)])))) (cRet (cK (.bool false))) cNx)
  (cSq (cIf (ctNot (ctE (.v (cCall 29 [] [.v (cVar 2), .v (cVar 7), .v (cVar 9), .v (cVar 12), .v (cVar 13)])))) (cRet (cK (.bool false))) cNx)
  (cSq q32d
  q32e))))
theorem c32_eq : c32 = (cSq (cAsg 1 (cCall 15 [] [.v (cVar 0)]))
  (cSq (cAsg 2 (cCall 20 [(1, 0)] [.n 1]))
  (cSq (cPar [3, 4] [(cVar 2), (cOp fLen [.n 2])])
  (cSq q32a
  (cSq (cIf (ctNot (ctE (.v (cCall 31 [] [])))) (cRet (cK (.bool false))) cNx)
  (cSq (cPar [7, 8] [(cCall 21 [] [.v (cVar 2)]), (cCall 21 [] [.v (cVar 3)])])
  (cSq (cPar [9, 10] [(cCall 22 [] [.v (cVar 2), .v (cVar 7)]), (cCall 22 [] [.v (cVar 3), .v (cVar 8)])])
  (cSq (cIf (ctOr (ctNot (ctE (.v (cCall 30 [(1, 0)] [.n 1, .v (cVar 9)])))) (ctNot (ctE (.v (cCall 30 [(1, 0)] [.n 1, .v (cVar 10)]))))) (cRet (cK (.bool false))) cNx)
  (cSq (cIf (ctNot (ctE (.v (cCall 19 [] [.v (cCall 14 [] [.v (cVar 2)]), .v (cCall 25 [] [.v (cVar 7), .v (cVar 9)])])))) (cRet (cK (.bool false))) cNx)
  (cSq (cIf (ctNot (ctE (.v (cCall 19 [] [.v (cCallK 14 [0] [(cVar 3)]), .v (cCall 25 [] [.v (cVar 8), .v (cVar 10)])])))) (cRet (cK (.bool false))) cNx)
  (cSq (cFor ⟨[.v (cK (.int 8))], itR1⟩ (.n 11) bd32)
  (cRet (cAnd (cCall 28 [] [.v (cVar 2), .v (cVar 9), .v (cK (.str "")), .v (cK (.int 0))]) (cCall 29 [] [.v (cVar 2), .v (cVar 7), .v (cVar 9), .v (cK (.str "")), .v (cK (.int 1))])))))))))))))) := rfl
theorem st32a (k : Nat) (hk : 2 ≤ k) (gs : List Int) (x mm : Int) (sc : PyData) (w : List Nat) (aw : Abc w) (hw : w.length ≤ 60) :
    ∃ gs' x' mm' v z5, Abc v ∧ v.length ≤ 60 ∧ nl z5 = true ∧ q32a (clN tab k) [some (.f, sc), some (.b, BagD gs x mm), some (.f, str w), some (.f, str w), some (.f, .int (w.length : Int)), none, none, none, none, none, none, none, none, none] = .ok ([some (.f, sc), some (.b, BagD gs' x' mm'), some (.f, str w), some (.f, str v), some (.f, .int (w.length : Int)), z5, none, none, none, none, none, none, none, none], .nx) := by
  have hd : PyData.str "abcd" = str [97, 98, 99, 100] := rfl
  by_cases h0 : 0 < w.length
  · have f0 : fGt [.int (w.length : Int), .int 0] = some (.f, .bool true) := by rw [o_gtI, decide_eq_true (by omega)]
    obtain ⟨g1, x1, m1, d1, h1, E1⟩ := sp16 k (by omega) gs x mm (w.length : Int) w.length rfl h0 (by omega)
    obtain ⟨g2, x2, m2, d2, h2, E2⟩ := sp16 k (by omega) g1 x1 m1 (w.length : Int) w.length rfl h0 (by omega)
    obtain ⟨g3, x3, m3, c, hc, E3⟩ := sp17l k hk g2 x2 m2 [.int ((w.length : Int) - 1), .int (d1 : Nat), .int (d2 : Nat)] (by simp) (by simp)
    obtain ⟨kk, rfl, hkk⟩ : ∃ kk : Nat, c = .int (kk : Int) ∧ kk < w.length := by
      simp only [List.mem_cons, List.not_mem_nil, or_false] at hc
      rcases hc with rfl | rfl | rfl
      · exact ⟨w.length - 1, by congr 1; omega, by omega⟩
      · exact ⟨d1, rfl, h1⟩
      · exact ⟨d2, rfl, h2⟩
    have hix := o_ixS (l := w) (i := (kk : Int)) (by omega)
    rw [atI_nat, List.getElem?_eq_getElem hkk] at hix
    generalize hq : w[kk] = q at *
    have h := fun (cl : Cl) (bg : PyData) => lc_step (cl := cl) (e := [some (.f, sc), some (.b, bg), some (.f, str w), some (.f, str w), some (.f, .int (w.length : Int)), some (.f, .int (kk : Int)), none, none, none, none, none, none, none, none]) (as := [.v (cK (str [97, 98, 99, 100]))]) (f := itV) (tg := .n 6) (own := [6]) (t := ctB (cOp (fEqM true) [.n 6, .v (cOp fIx [.n 2, .n 5])])) (c := cVar 6) [97, 98, 99, 100] (fun c => str [c]) (fun c => c != q) (fun c => str [c])
      (it_v (ow := .f) (d := str [97, 98, 99, 100]) rfl i_strV) (by rw [s_lkv, s_lk0]) (by decide) (by simp) (fun c hc => by
        have f1 := neS1 (a := c) (b := q)
        generalize (w.length : Int) = wl at *
        cases hcq : (c != q) with
        | true =>
          rw [hcq] at f1
          simp [lcStep, hix, f1]
        | false =>
          rw [hcq] at f1
          simp [lcStep, hix, f1])
    have hne : (([97, 98, 99, 100] : List Nat).filter (fun c => c != q)).map (fun c => str [c]) ≠ [] := by
      intro e
      have e1 := List.map_eq_nil_iff.mp e
      rw [List.filter_eq_nil_iff] at e1
      have a := e1 97 (by simp)
      have b := e1 98 (by simp)
      simp at a b
      omega
    obtain ⟨g4, x4, m4, c, hc4, E4⟩ := sp17l k hk g3 x3 m3 _ hne (by
      rw [List.length_map]
      have := List.length_filter_le (fun c => c != q) [97, 98, 99, 100]
      simp at this
      omega)
    obtain ⟨c1, hc1, rfl⟩ := List.mem_map.mp hc4
    have hc2 := (List.mem_filter.mp hc1).1
    have ac : 97 ≤ c1 ∧ c1 ≤ 100 := by
      simp at hc2
      omega
    have q1 := o_slB (l := w) (b := kk) (by omega)
    have q2 : fSlA [str w, .int ((kk : Int) + 1)] = some (.f, str (w.drop (kk + 1))) := by
      rw [show (kk : Int) + 1 = ((kk + 1 : Nat) : Int) by omega]
      exact o_slA (by omega)
    have q3 := o_addS (a := w.take kk) (b := [c1]) (by simp; omega)
    have q4 := o_addS (a := w.take kk ++ [c1]) (b := w.drop (kk + 1)) (by simp; omega)
    refine ⟨g4, x4, m4, w.take kk ++ [c1] ++ w.drop (kk + 1), some (.f, .int (kk : Int)), ((aw.take kk).app (Abc.one ac)).app (aw.drop (kk + 1)), by simp; omega, rfl, ?_⟩
    have h' := h (clN tab k) (BagD g3 x3 m3)
    clear h hne hc hc1 hc2 hc4 hq
    generalize (([97, 98, 99, 100] : List Nat).filter (fun c => c != q)).map (fun c => str [c]) = FF at *
    generalize w.take kk ++ [c1] ++ w.drop (kk + 1) = u1 at *
    generalize w.take kk ++ [c1] = u2 at *
    generalize w.drop (kk + 1) = u3 at *
    generalize w.take kk = u4 at *
    generalize clN tab k = cl at *
    generalize (kk : Int) = kz at *
    generalize (w.length : Int) = wl at *
    simp [-o_gtI, q32a, hd, f0, E1, E2, E3, q1, q2, q3, q4, h', E4]
  · have f0 : fGt [.int (w.length : Int), .int 0] = some (.f, .bool false) := by rw [o_gtI, decide_eq_false (by omega)]
    refine ⟨gs, x, mm, w, none, aw, hw, rfl, ?_⟩
    generalize clN tab k = cl at *
    generalize (w.length : Int) = wl at *
    simp [-o_gtI, q32a, f0]
def W32 (sc bg : PyData) (w v : List Nat) (z5 z11 z12 z13 : Option Vl) : En := [some (.f, sc), some (.b, bg), some (.f, str w), some (.f, str v), some (.f, .int (w.length : Int)), z5, none, some (.f, .list (nums (atl w))), some (.f, .list (nums (atl v))), some (.f, str (La (w ++ [46]))), some (.f, str (La (v ++ [46]))), z11, z12, z13]
theorem st32d (k : Nat) (hk : 6 ≤ k) (sc bg : PyData) (w v : List Nat) (aw : Abc w) (hw : w.length ≤ 60) (av : Abc v) (hv : v.length ≤ 60) (z5 : Option Vl) (t : Nat) (y : List Nat) (ay : Abc y) (hy : y.length ≤ 61) (way : Int) :
    q32d (clN tab k) (W32 sc bg w v z5 (some (.f, .int (t : Int))) (some (.f, str y)) (some (.f, .int way))) = .ok (W32 sc bg w v z5 (some (.f, .int (t : Int))) (some (.f, str y)) (some (.f, .int way)), .nx) := by
  obtain ⟨b, hb⟩ : ∃ b, fIn false [.int (t : Int), .tuple [.int 0, .int 2]] = some (.f, .bool b) := ⟨_, o_inT (ne := false) (k := t) (l := [0, 2])⟩
  have e28 := sp28 k hk v y (by omega) av (by omega) ay way
  have e29 := sp29 k hk v y (by omega) av (by omega) ay way
  generalize clN tab k = cl at *
  unfold W32
  generalize nums (atl w) = A1 at *
  generalize nums (atl v) = A2 at *
  generalize La (w ++ [46]) = A3 at *
  generalize La (v ++ [46]) = A4 at *
  generalize (t : Int) = ti at *
  generalize (w.length : Int) = wl at *
  cases b <;> simp [q32d, hb, e28, e29]
theorem st32e (k : Nat) (hk : 6 ≤ k) (sc bg : PyData) (w v : List Nat) (aw : Abc w) (hw : w.length ≤ 60) (z5 : Option Vl) (t : Nat) (y : List Nat) (ay : Abc y) (hy : y.length ≤ 61) (way : Int) :
    ∃ z12, nl z12 = true ∧ q32e (clN tab k) (W32 sc bg w v z5 (some (.f, .int (t : Int))) (some (.f, str y)) (some (.f, .int way))) = .ok (W32 sc bg w v z5 (some (.f, .int (t : Int))) z12 (some (.f, .int way)), .nx) := by
  obtain ⟨b, hb, _⟩ := eqI_b (t : Int) 5
  have q2 : fSlA [str y, .int (-7)] = some (.f, str (cutD y (some (-7)) none)) := fSl_str (by omega)
  have ac : Abc (cutD y (some (-7)) none) := fun d hd => ay d (cut_sub _ _ _ d hd)
  have hc : (cutD y (some (-7)) none).length ≤ 61 := by have := cut_len y (some (-7)) none; omega
  generalize cutD y (some (-7)) none = u at *
  have e28 := sp28 k hk w u (by omega) aw (by omega) ac way
  have e29 := sp29 k hk w u (by omega) aw (by omega) ac way
  have e28' := sp28 k hk w u (by omega) aw (by omega) ac (1 - way)
  have e29' := sp29 k hk w u (by omega) aw (by omega) ac (1 - way)
  cases b with
  | false =>
    refine ⟨some (.f, str y), rfl, ?_⟩
    generalize clN tab k = cl at *
    unfold W32
    generalize nums (atl w) = A1 at *
    generalize nums (atl v) = A2 at *
    generalize La (w ++ [46]) = A3 at *
    generalize La (v ++ [46]) = A4 at *
    generalize (t : Int) = ti at *
    generalize (w.length : Int) = wl at *
    simp [q32e, hb]
  | true =>
    refine ⟨some (.f, str u), rfl, ?_⟩
    generalize clN tab k = cl at *
    unfold W32
    generalize nums (atl w) = A1 at *
    generalize nums (atl v) = A2 at *
    generalize La (w ++ [46]) = A3 at *
    generalize La (v ++ [46]) = A4 at *
    generalize (t : Int) = ti at *
    generalize (w.length : Int) = wl at *
    simp [q32e, hb, q2, e28, e29, e28', e29']
theorem law_gen (n : Nat) (hnn : 10 ≤ n) (ns : List Int) (h : ns.length ≤ 63) : ∃ ow fs, clN tab (n + 1) 32 [(.f, .list (ns.map .int))] = .ok ((ow, .bool true), fs) := by
  have hd0 : PyData.str "" = str [] := rfl
  obtain ⟨g1, x1, m1, E15⟩ := sp15 n (by omega) ns h
  obtain ⟨g2, x2, m2, w, hw, aw, E20⟩ := sp20 n (by omega) g1 x1 m1
  have hwl := o_len (l := w) (by omega)
  obtain ⟨g3, x3, m3, v, z5, av, hv, hz5, EA⟩ := st32a n (by omega) g2 x2 m2 (.list (zs ns)) w aw hw
  have e31 := sp31 n (by omega)
  have e21w := sp21 n (by omega) w (by omega) aw.gt
  have e21v := sp21 n (by omega) v (by omega) av.gt
  have e22w := sp22 n (by omega) w (by omega) aw.lt
  have e22v := sp22 n (by omega) v (by omega) av.lt
  obtain ⟨g4, x4, m4, E30w⟩ := sp30 n (by omega) g3 x3 m3 (La (w ++ [46])) (by rw [La_len]; simp; omega)
  obtain ⟨g5, x5, m5, E30v⟩ := sp30 n (by omega) g4 x4 m4 (La (v ++ [46])) (by rw [La_len]; simp; omega)
  have e14w := sp14 n (by omega) w (by omega) aw.lt
  have e14v := sp14 n (by omega) v (by omega) av.lt
  have e25w := sp25 n (by omega) w (by omega)
  have e25v := sp25 n (by omega) v (by omega)
  have hsl : ∀ u : List Nat, (srt leN (EN u)).length ≤ u.length + 1 := by
    intro u
    rw [(srt_perm leN (EN u)).length_eq]
    exact EN_len u
  have e19w := sp19 n (by omega) (srt leN (EN w)) (by have := hsl w; omega)
  have e19v := sp19 n (by omega) (srt leN (EN v)) (by have := hsl v; omega)
  have e28 := sp28 n (by omega) w [] (by omega) aw (by simp) (fun c hc => by simp at hc) 0
  have e29 := sp29 n (by omega) w [] (by omega) aw (by simp) (fun c hc => by simp at hc) 1
  obtain ⟨e', ⟨g6, x6, m6, z11, z12, z13, _, _, _, rfl⟩, hf⟩ := forL_inv (cl := clN tab n) (tg := .n 11) (body := bd32) (fun (i : Nat) => PyData.int (i : Int))
    (fun _ e => ∃ gs x mm z11 z12 z13, nl z11 = true ∧ nl z12 = true ∧ nl z13 = true ∧ e = W32 (.list (zs ns)) (BagD gs x mm) w v z5 z11 z12 z13) (by
      rintro t r e ⟨gs, x, mm, z11, z12, z13, h11, h12, h13, rfl⟩
      refine ⟨W32 (.list (zs ns)) (BagD gs x mm) w v z5 (some (.f, .int (t : Int))) z12 z13, by simp [W32, h11], ?_⟩
      obtain ⟨h1, y1, k1, y, ay, hy, E27⟩ := sp27 n (by omega) gs x mm w aw hw (t : Int) t rfl
      obtain ⟨h2, y2, k2, d, _, E16⟩ := sp16 n (by omega) h1 y1 k1 2 2 rfl (by omega) (by omega)
      have f28 := sp28 n (by omega) w y (by omega) aw (by omega) ay (d : Int)
      have f29 := sp29 n (by omega) w y (by omega) aw (by omega) ay (d : Int)
      have D := st32d n (by omega) (.list (zs ns)) (BagD h2 y2 k2) w v aw hw av hv z5 t y ay hy (d : Int)
      obtain ⟨u12, hu, Ee⟩ := st32e n (by omega) (.list (zs ns)) (BagD h2 y2 k2) w v aw hw z5 t y ay hy (d : Int)
      refine ⟨_, ?_, ⟨h2, y2, k2, some (.f, .int (t : Int)), u12, some (.f, .int (d : Int)), rfl, hu, rfl, rfl⟩⟩
      clear E15 E20 hwl EA e31 e21w e21v e22w e22v E30w E30v e14w e14v e25w e25v hsl e19w e19v e28 e29
      unfold W32 at *
      generalize clN tab n = cl at *
      generalize nums (atl w) = A1 at *
      generalize nums (atl v) = A2 at *
      generalize La (w ++ [46]) = A3 at *
      generalize La (v ++ [46]) = A4 at *
      generalize (t : Int) = ti at *
      generalize (d : Int) = di at *
      generalize (w.length : Int) = wl at *
      simp [bd32, h12, h13, E27, E16, f28, f29, D, Ee])
    (List.range 8) (W32 (.list (zs ns)) (BagD g5 x5 m5) w v z5 none none none) ⟨g5, x5, m5, none, none, none, rfl, rfl, rfl, rfl⟩
  have hF := for_v (cl := clN tab n) (c := cK (.int 8)) (f := itR1) (it_v (e := W32 (.list (zs ns)) (BagD g5 x5 m5) w v z5 none none none) (ow := .f) (d := .int 8) rfl (i_R1 (n := 8) (by omega))) hf
  refine ⟨.f, [], ?_⟩
  rw [clN_go (rfl : tab 32 = some ⟨1, 14, [], noEx c32⟩) rfl]
  have hz : ns.map PyData.int = zs ns := rfl
  rw [hz]
  unfold W32 at hF
  clear hf hsl hz hw hv aw av hnn h
  generalize clN tab n = cl at *
  generalize nums (atl w) = A1 at *
  generalize nums (atl v) = A2 at *
  generalize La (w ++ [46]) = A3 at *
  generalize La (v ++ [46]) = A4 at *
  generalize nums (srt leN (EN w)) = A5 at *
  generalize nums (srt leN (EN v)) = A6 at *
  generalize zs ns = Z at *
  generalize (w.length : Int) = wl at *
  simp [c32_eq, hd0, E15, E20, hwl, EA, e31, e21w, e21v, e22w, e22v, E30w, E30v, e14w, e14v, e25w, e25v, e19w, e19v, hF, e28, e29]
theorem law_true (ns : List Int) (h : ns.length ≤ 63) : ∃ ow fs, clN tab 30 32 [(.f, .list (ns.map .int))] = .ok ((ow, .bool true), fs) := law_gen 29 (by omega) ns h
end G
end

section
set_option Elab.async false
set_option linter.all false
set_option maxRecDepth 100000
set_option maxHeartbeats 0
namespace G
open PySem PySem.Spec PyProof.Rows L2 Ev
def d0 : He.DefD := ⟨("sign_places", none), "sign_places", "sign_places", defArgs (top 1), defBody (top 1), defScope (top 1), [], []⟩
def d1 : He.DefD := ⟨("last_letters", none), "last_letters", "last_letters", defArgs (top 2), defBody (top 2), defScope (top 2), [], []⟩
def d2 : He.DefD := ⟨("steps_of", none), "steps_of", "steps_of", defArgs (top 3), defBody (top 3), defScope (top 3), [], []⟩
def d3 : He.DefD := ⟨("circle_from", none), "circle_from", "circle_from", defArgs (top 4), defBody (top 4), defScope (top 4), [], []⟩
def d4 : He.DefD := ⟨("back_rows", none), "back_rows", "back_rows", defArgs (top 6), defBody (top 6), defScope (top 6), [], []⟩
def d5 : He.DefD := ⟨("word_back", none), "word_back", "word_back", defArgs (top 7), defBody (top 7), defScope (top 7), [], []⟩
def d6 : He.DefD := ⟨("less_signs", none), "less_signs", "less_signs", defArgs (top 9), defBody (top 9), defScope (top 9), [], []⟩
def d7 : He.DefD := ⟨("lookup_ranges", none), "lookup_ranges", "lookup_ranges", defArgs (top 10), defBody (top 10), defScope (top 10), [], []⟩
def d8 : He.DefD := ⟨("part_count", none), "part_count", "part_count", defArgs (top 11), defBody (top 11), defScope (top 11), [], []⟩
def d9 : He.DefD := ⟨("part_places", none), "part_places", "part_places", defArgs (top 12), defBody (top 12), defScope (top 12), [], []⟩
def d10 : He.DefD := ⟨("letter_ranks", none), "letter_ranks", "letter_ranks", defArgs (top 13), defBody (top 13), defScope (top 13), [], []⟩
def d11 : He.DefD := ⟨("kept_ends", none), "kept_ends", "kept_ends", defArgs (top 15), defBody (top 15), defScope (top 15), [], []⟩
def d12 : He.DefD := ⟨("kept_places", none), "kept_places", "kept_places", defArgs (top 16), defBody (top 16), defScope (top 16), [], []⟩
def d13 : He.DefD := ⟨("kept_moves", none), "kept_moves", "kept_moves", defArgs (top 17), defBody (top 17), defScope (top 17), [], []⟩
def d14 : He.DefD := ⟨("end_lot", none), "end_lot", "end_lot", defArgs (top 19), defBody (top 19), defScope (top 19), [], []⟩
def d15 : He.DefD := ⟨("_law_bag", none), "_law_bag", "_law_bag", defArgs (top 21), defBody (top 21), defScope (top 21), [], []⟩
def d16 : He.DefD := ⟨("_law_draw", none), "_law_draw", "_law_draw", defArgs (top 22), defBody (top 22), defScope (top 22), [], []⟩
def d17 : He.DefD := ⟨("_law_pick", none), "_law_pick", "_law_pick", defArgs (top 23), defBody (top 23), defScope (top 23), [], []⟩
def d18 : He.DefD := ⟨("_law_same", none), "_law_same", "_law_same", defArgs (top 24), defBody (top 24), defScope (top 24), [], []⟩
def d19 : He.DefD := ⟨("_law_ints", none), "_law_ints", "_law_ints", defArgs (top 25), defBody (top 25), defScope (top 25), [], []⟩
def d20 : He.DefD := ⟨("_law_word", none), "_law_word", "_law_word", defArgs (top 26), defBody (top 26), defScope (top 26), [], []⟩
def d21 : He.DefD := ⟨("_law_rows", none), "_law_rows", "_law_rows", defArgs (top 27), defBody (top 27), defScope (top 27), [], []⟩
def d22 : He.DefD := ⟨("_law_lasts", none), "_law_lasts", "_law_lasts", defArgs (top 28), defBody (top 28), defScope (top 28), [], []⟩
def d23 : He.DefD := ⟨("_law_ranges", none), "_law_ranges", "_law_ranges", defArgs (top 29), defBody (top 29), defScope (top 29), [], []⟩
def d24 : He.DefD := ⟨("_law_kept", none), "_law_kept", "_law_kept", defArgs (top 30), defBody (top 30), defScope (top 30), [], []⟩
def d25 : He.DefD := ⟨("_law_ends", none), "_law_ends", "_law_ends", defArgs (top 31), defBody (top 31), defScope (top 31), [], []⟩
def d26 : He.DefD := ⟨("_law_stands", none), "_law_stands", "_law_stands", defArgs (top 32), defBody (top 32), defScope (top 32), [], []⟩
def d27 : He.DefD := ⟨("_law_bent", none), "_law_bent", "_law_bent", defArgs (top 33), defBody (top 33), defScope (top 33), [], []⟩
def d28 : He.DefD := ⟨("_law_is_looked_up", none), "_law_is_looked_up", "_law_is_looked_up", defArgs (top 34), defBody (top 34), defScope (top 34), [], []⟩
def d29 : He.DefD := ⟨("_law_is_kept", none), "_law_is_kept", "_law_is_kept", defArgs (top 35), defBody (top 35), defScope (top 35), [], []⟩
def d30 : He.DefD := ⟨("_law_are_ranks_right", none), "_law_are_ranks_right", "_law_are_ranks_right", defArgs (top 36), defBody (top 36), defScope (top 36), [], []⟩
def d31 : He.DefD := ⟨("_law_are_known_right", none), "_law_are_known_right", "_law_are_known_right", defArgs (top 37), defBody (top 37), defScope (top 37), [], []⟩
def d32 : He.DefD := ⟨("law", none), "law", "law", defArgs (top 38), defBody (top 38), defScope (top 38), [], []⟩
def defs : List He.DefD := [d0, d1, d2, d3, d4, d5, d6, d7, d8, d9, d10, d11, d12, d13, d14, d15, d16, d17, d18, d19, d20, d21, d22, d23, d24, d25, d26, d27, d28, d29, d30, d31, d32]
def fas : List He.Fa := [.glo "sign_places", .glo "last_letters", .glo "steps_of", .glo "circle_from", .glo "back_rows", .glo "word_back", .glo "less_signs", .glo "lookup_ranges", .glo "part_count", .glo "part_places", .glo "letter_ranks", .glo "kept_ends", .glo "kept_places", .glo "kept_moves", .glo "end_lot", .glo "_law_bag", .glo "_law_draw", .glo "_law_pick", .glo "_law_same", .glo "_law_ints", .glo "_law_word", .glo "_law_rows", .glo "_law_lasts", .glo "_law_ranges", .glo "_law_kept", .glo "_law_ends", .glo "_law_stands", .glo "_law_bent", .glo "_law_is_looked_up", .glo "_law_is_kept", .glo "_law_are_ranks_right", .glo "_law_are_known_right", .glo "law", .free "abs", .free "all", .free "bool", .free "enumerate", .free "int", .free "isinstance", .free "len", .free "list", .free "min", .free "range", .free "reversed", .free "sorted", .free "str", .free "tuple", .free "zip"]
abbrev R : PySem.W.OpenRow := PySem.W.OpenLaw.row PySem.Challenge.rw_shortlytold_k51_whole_backward_lookups_k
abbrev hk : PySem.W.Hook := He.hookD 4 fas defs
def ob (s : PySem.W.SharedT) : He.AlD := He.obsDG 4 fas defs (HandSHeadRun.getT s)
theorem ob_eq (s : PySem.W.SharedT) : ob s = hk.obs s.abs := He.obsDG_eq (HandSHeadRun.getT_eq s)
theorem run (w : World) : HandSHeadRun.RunEq R (PySem.W.view R.prog [38]) hk ob 6000 ["sign_places", "last_letters", "steps_of", "circle_from", "back_rows", "word_back", "less_signs", "lookup_ranges", "part_count", "part_places", "letter_ranks", "kept_ends", "kept_places", "kept_moves", "end_lot", "_law_bag", "_law_draw", "_law_pick", "_law_same", "_law_ints", "_law_word", "_law_rows", "_law_lasts", "_law_ranges", "_law_kept", "_law_ends", "_law_stands", "_law_bent", "_law_is_looked_up", "_law_is_kept", "_law_are_ranks_right", "_law_are_known_right"] w := by
  intro os
  kernel_rfl
def adrs (K : PySem.W.Frag) : Nat → Addr
  | 0 => He.fAd K ("sign_places", none)
  | 1 => He.fAd K ("last_letters", none)
  | 2 => He.fAd K ("steps_of", none)
  | 3 => He.fAd K ("circle_from", none)
  | 4 => He.fAd K ("back_rows", none)
  | 5 => He.fAd K ("word_back", none)
  | 6 => He.fAd K ("less_signs", none)
  | 7 => He.fAd K ("lookup_ranges", none)
  | 8 => He.fAd K ("part_count", none)
  | 9 => He.fAd K ("part_places", none)
  | 10 => He.fAd K ("letter_ranks", none)
  | 11 => He.fAd K ("kept_ends", none)
  | 12 => He.fAd K ("kept_places", none)
  | 13 => He.fAd K ("kept_moves", none)
  | 14 => He.fAd K ("end_lot", none)
  | 15 => He.fAd K ("_law_bag", none)
  | 16 => He.fAd K ("_law_draw", none)
  | 17 => He.fAd K ("_law_pick", none)
  | 18 => He.fAd K ("_law_same", none)
  | 19 => He.fAd K ("_law_ints", none)
  | 20 => He.fAd K ("_law_word", none)
  | 21 => He.fAd K ("_law_rows", none)
  | 22 => He.fAd K ("_law_lasts", none)
  | 23 => He.fAd K ("_law_ranges", none)
  | 24 => He.fAd K ("_law_kept", none)
  | 25 => He.fAd K ("_law_ends", none)
  | 26 => He.fAd K ("_law_stands", none)
  | 27 => He.fAd K ("_law_bent", none)
  | 28 => He.fAd K ("_law_is_looked_up", none)
  | 29 => He.fAd K ("_law_is_kept", none)
  | 30 => He.fAd K ("_law_are_ranks_right", none)
  | 31 => He.fAd K ("_law_are_known_right", none)
  | 32 => He.fAd K ("law", none)
  | _ => 0
theorem facts_of {K : PySem.W.Frag} {h : Heap} {mg : Str → Option Value} {a : Addr} {o : Obj} (X : K.In h) (Gm : h.Ns mainGlobals mg) (c : He.SaysD fas defs K) (ha : h.get? a = some o) (hs : ∃ xs n, o.data = .seq xs n) : ∃ fds : Nat → FuncData, Facts (noK K a) mg (adrs K) fds := by
  obtain ⟨fd0, F0⟩ := c.def_ 0 (d := d0) rfl
  obtain ⟨fd1, F1⟩ := c.def_ 1 (d := d1) rfl
  obtain ⟨fd2, F2⟩ := c.def_ 2 (d := d2) rfl
  obtain ⟨fd3, F3⟩ := c.def_ 3 (d := d3) rfl
  obtain ⟨fd4, F4⟩ := c.def_ 4 (d := d4) rfl
  obtain ⟨fd5, F5⟩ := c.def_ 5 (d := d5) rfl
  obtain ⟨fd6, F6⟩ := c.def_ 6 (d := d6) rfl
  obtain ⟨fd7, F7⟩ := c.def_ 7 (d := d7) rfl
  obtain ⟨fd8, F8⟩ := c.def_ 8 (d := d8) rfl
  obtain ⟨fd9, F9⟩ := c.def_ 9 (d := d9) rfl
  obtain ⟨fd10, F10⟩ := c.def_ 10 (d := d10) rfl
  obtain ⟨fd11, F11⟩ := c.def_ 11 (d := d11) rfl
  obtain ⟨fd12, F12⟩ := c.def_ 12 (d := d12) rfl
  obtain ⟨fd13, F13⟩ := c.def_ 13 (d := d13) rfl
  obtain ⟨fd14, F14⟩ := c.def_ 14 (d := d14) rfl
  obtain ⟨fd15, F15⟩ := c.def_ 15 (d := d15) rfl
  obtain ⟨fd16, F16⟩ := c.def_ 16 (d := d16) rfl
  obtain ⟨fd17, F17⟩ := c.def_ 17 (d := d17) rfl
  obtain ⟨fd18, F18⟩ := c.def_ 18 (d := d18) rfl
  obtain ⟨fd19, F19⟩ := c.def_ 19 (d := d19) rfl
  obtain ⟨fd20, F20⟩ := c.def_ 20 (d := d20) rfl
  obtain ⟨fd21, F21⟩ := c.def_ 21 (d := d21) rfl
  obtain ⟨fd22, F22⟩ := c.def_ 22 (d := d22) rfl
  obtain ⟨fd23, F23⟩ := c.def_ 23 (d := d23) rfl
  obtain ⟨fd24, F24⟩ := c.def_ 24 (d := d24) rfl
  obtain ⟨fd25, F25⟩ := c.def_ 25 (d := d25) rfl
  obtain ⟨fd26, F26⟩ := c.def_ 26 (d := d26) rfl
  obtain ⟨fd27, F27⟩ := c.def_ 27 (d := d27) rfl
  obtain ⟨fd28, F28⟩ := c.def_ 28 (d := d28) rfl
  obtain ⟨fd29, F29⟩ := c.def_ 29 (d := d29) rfl
  obtain ⟨fd30, F30⟩ := c.def_ 30 (d := d30) rfl
  obtain ⟨fd31, F31⟩ := c.def_ 31 (d := d31) rfl
  obtain ⟨fd32, F32⟩ := c.def_ 32 (d := d32) rfl
  exact ⟨fun i => match i with
    | 0 => fd0
    | 1 => fd1
    | 2 => fd2
    | 3 => fd3
    | 4 => fd4
    | 5 => fd5
    | 6 => fd6
    | 7 => fd7
    | 8 => fd8
    | 9 => fd9
    | 10 => fd10
    | 11 => fd11
    | 12 => fd12
    | 13 => fd13
    | 14 => fd14
    | 15 => fd15
    | 16 => fd16
    | 17 => fd17
    | 18 => fd18
    | 19 => fd19
    | 20 => fd20
    | 21 => fd21
    | 22 => fd22
    | 23 => fd23
    | 24 => fd24
    | 25 => fd25
    | 26 => fd26
    | 27 => fd27
    | 28 => fd28
    | 29 => fd29
    | 30 => fd30
    | 31 => fd31
    | 32 => fd32
    | _ => fd0, {
    F0 := noK_fun X ha hs F0
    g0 := He.glo_ok X Gm (c.fact 0 (f := .glo "sign_places") rfl)
    F1 := noK_fun X ha hs F1
    g1 := He.glo_ok X Gm (c.fact 1 (f := .glo "last_letters") rfl)
    F2 := noK_fun X ha hs F2
    g2 := He.glo_ok X Gm (c.fact 2 (f := .glo "steps_of") rfl)
    F3 := noK_fun X ha hs F3
    g3 := He.glo_ok X Gm (c.fact 3 (f := .glo "circle_from") rfl)
    F4 := noK_fun X ha hs F4
    g4 := He.glo_ok X Gm (c.fact 4 (f := .glo "back_rows") rfl)
    F5 := noK_fun X ha hs F5
    g5 := He.glo_ok X Gm (c.fact 5 (f := .glo "word_back") rfl)
    F6 := noK_fun X ha hs F6
    g6 := He.glo_ok X Gm (c.fact 6 (f := .glo "less_signs") rfl)
    F7 := noK_fun X ha hs F7
    g7 := He.glo_ok X Gm (c.fact 7 (f := .glo "lookup_ranges") rfl)
    F8 := noK_fun X ha hs F8
    g8 := He.glo_ok X Gm (c.fact 8 (f := .glo "part_count") rfl)
    F9 := noK_fun X ha hs F9
    g9 := He.glo_ok X Gm (c.fact 9 (f := .glo "part_places") rfl)
    F10 := noK_fun X ha hs F10
    g10 := He.glo_ok X Gm (c.fact 10 (f := .glo "letter_ranks") rfl)
    F11 := noK_fun X ha hs F11
    g11 := He.glo_ok X Gm (c.fact 11 (f := .glo "kept_ends") rfl)
    F12 := noK_fun X ha hs F12
    g12 := He.glo_ok X Gm (c.fact 12 (f := .glo "kept_places") rfl)
    F13 := noK_fun X ha hs F13
    g13 := He.glo_ok X Gm (c.fact 13 (f := .glo "kept_moves") rfl)
    F14 := noK_fun X ha hs F14
    g14 := He.glo_ok X Gm (c.fact 14 (f := .glo "end_lot") rfl)
    F15 := noK_fun X ha hs F15
    g15 := He.glo_ok X Gm (c.fact 15 (f := .glo "_law_bag") rfl)
    F16 := noK_fun X ha hs F16
    g16 := He.glo_ok X Gm (c.fact 16 (f := .glo "_law_draw") rfl)
    F17 := noK_fun X ha hs F17
    g17 := He.glo_ok X Gm (c.fact 17 (f := .glo "_law_pick") rfl)
    F18 := noK_fun X ha hs F18
    g18 := He.glo_ok X Gm (c.fact 18 (f := .glo "_law_same") rfl)
    F19 := noK_fun X ha hs F19
    g19 := He.glo_ok X Gm (c.fact 19 (f := .glo "_law_ints") rfl)
    F20 := noK_fun X ha hs F20
    g20 := He.glo_ok X Gm (c.fact 20 (f := .glo "_law_word") rfl)
    F21 := noK_fun X ha hs F21
    g21 := He.glo_ok X Gm (c.fact 21 (f := .glo "_law_rows") rfl)
    F22 := noK_fun X ha hs F22
    g22 := He.glo_ok X Gm (c.fact 22 (f := .glo "_law_lasts") rfl)
    F23 := noK_fun X ha hs F23
    g23 := He.glo_ok X Gm (c.fact 23 (f := .glo "_law_ranges") rfl)
    F24 := noK_fun X ha hs F24
    g24 := He.glo_ok X Gm (c.fact 24 (f := .glo "_law_kept") rfl)
    F25 := noK_fun X ha hs F25
    g25 := He.glo_ok X Gm (c.fact 25 (f := .glo "_law_ends") rfl)
    F26 := noK_fun X ha hs F26
    g26 := He.glo_ok X Gm (c.fact 26 (f := .glo "_law_stands") rfl)
    F27 := noK_fun X ha hs F27
    g27 := He.glo_ok X Gm (c.fact 27 (f := .glo "_law_bent") rfl)
    F28 := noK_fun X ha hs F28
    g28 := He.glo_ok X Gm (c.fact 28 (f := .glo "_law_is_looked_up") rfl)
    F29 := noK_fun X ha hs F29
    g29 := He.glo_ok X Gm (c.fact 29 (f := .glo "_law_is_kept") rfl)
    F30 := noK_fun X ha hs F30
    g30 := He.glo_ok X Gm (c.fact 30 (f := .glo "_law_are_ranks_right") rfl)
    F31 := noK_fun X ha hs F31
    g31 := He.glo_ok X Gm (c.fact 31 (f := .glo "_law_are_known_right") rfl)
    F32 := noK_fun X ha hs F32
    g32 := He.glo_ok X Gm (c.fact 32 (f := .glo "law") rfl)
    m_abs := He.free_ok X Gm (c.fact 33 (f := .free "abs") rfl)
    m_all := He.free_ok X Gm (c.fact 34 (f := .free "all") rfl)
    m_bool := He.free_ok X Gm (c.fact 35 (f := .free "bool") rfl)
    m_enumerate := He.free_ok X Gm (c.fact 36 (f := .free "enumerate") rfl)
    m_int := He.free_ok X Gm (c.fact 37 (f := .free "int") rfl)
    m_isinstance := He.free_ok X Gm (c.fact 38 (f := .free "isinstance") rfl)
    m_len := He.free_ok X Gm (c.fact 39 (f := .free "len") rfl)
    m_list := He.free_ok X Gm (c.fact 40 (f := .free "list") rfl)
    m_min := He.free_ok X Gm (c.fact 41 (f := .free "min") rfl)
    m_range := He.free_ok X Gm (c.fact 42 (f := .free "range") rfl)
    m_reversed := He.free_ok X Gm (c.fact 43 (f := .free "reversed") rfl)
    m_sorted := He.free_ok X Gm (c.fact 44 (f := .free "sorted") rfl)
    m_str := He.free_ok X Gm (c.fact 45 (f := .free "str") rfl)
    m_tuple := He.free_ok X Gm (c.fact 46 (f := .free "tuple") rfl)
    m_zip := He.free_ok X Gm (c.fact 47 (f := .free "zip") rfl)
  }⟩
end G
open PySem PySem.W PySem.Calls PyProof.Rows
theorem PySem.Challenge.cw_shortlytold_k51_whole_backward_lookups_k_holds : PySem.Challenge.rw_shortlytold_k51_whole_backward_lookups_k.Holds := by
  w_on; o_law
  refine HandSHeadRun.head_any (r := OpenLaw.row PySem.Challenge.rw_shortlytold_k51_whole_backward_lookups_k) (q := view (OpenLaw.row PySem.Challenge.rw_shortlytold_k51_whole_backward_lookups_k).prog [38]) (H := G.hk) (ob := G.ob) (M := 6000) (loose := ["sign_places", "last_letters", "steps_of", "circle_from", "back_rows", "word_back", "less_signs", "lookup_ranges", "part_count", "part_places", "letter_ranks", "kept_ends", "kept_places", "kept_moves", "end_lot", "_law_bag", "_law_draw", "_law_pick", "_law_same", "_law_ints", "_law_word", "_law_rows", "_law_lasts", "_law_ranges", "_law_kept", "_law_ends", "_law_stands", "_law_bent", "_law_is_looked_up", "_law_is_kept", "_law_are_ranks_right", "_law_are_known_right"]) (d := HandSHeadRun.topDef (OpenLaw.row PySem.Challenge.rw_shortlytold_k51_whole_backward_lookups_k).prog 38) (kwd := []) G.ob_eq
    (by kernel_rfl) (fun s => by kernel_rfl) G.run (by kernel_rfl) (by kernel_rfl) (by kernel_rfl) (by rfl) (by first | assumption | decide +kernel) (by decide +kernel) ⟨rfl, rfl, rfl, rfl, rfl, by decide +kernel⟩ ?hw ?hc
  case hw => w_witness2
  case hc =>
    refine Ev.walk_ofG (l := PySem.Challenge.rw_shortlytold_k51_whole_backward_lookups_k) (n := 63) (k := 30) (x := "script") rfl (by decide) (by kernel_rfl) ⟨rfl, by decide, by decide⟩ ?F
    intro w mg fa a h o Y Gm hmg0 ha hcl hs
    obtain ⟨K, KX, c⟩ := Y
    have hmg : mg ("law" : PySem.Str) = some (.ref fa) := by
      have e : (HandSHeadRun.topDef (OpenLaw.row PySem.Challenge.rw_shortlytold_k51_whole_backward_lookups_k).prog 38).name = ("law" : PySem.Str) := by kernel_rfl
      rw [← e]
      exact hmg0
    obtain ⟨fds, D⟩ := G.facts_of KX Gm c ha hs
    have e := hmg.symm.trans D.g32
    cases e
    have b := L2.FunD.bindsA (ps := ["script"]) D.F32 fun _ _ _ _ _ _ us hl => match us, hl with | [_], _ => rfl
    refine ⟨Ev.noK K a, fds 32, Ev.spF (Ev.noK K a) (fun _ _ _ _ _ _ => False) (Ev.clN G.tab 30 32) 1 [], Ev.noK_in KX a, Ev.noK_at K a, fun s v => b s [v] rfl, fun o ns hl => ?_, fun base _ _ => (G.ok_all (EK := fun _ _ _ _ _ _ => False) D 30).o32⟩
    obtain ⟨ow, fs, hx⟩ := G.law_true ns hl
    exact Ev.sp_law hx
end
