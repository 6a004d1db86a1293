import PyProof.Rows.All
import Wide.All
import OpenK.AllK
import Wide.FinOn
import PySem.Challenge.RW_no0305_01
set_option Elab.async false
section
namespace Mine
open PySem
inductive PV where
  | d (x : PyData)
  | ref (i : Nat)
inductive PObj where
  | list (xs : List PyData)
  | sdict (es : List (Nat × PV))
  | idict (ks : List Int)
  | inst (di : Nat)
noncomputable abbrev St := List PObj
noncomputable abbrev Vars := Nat → Option PV
noncomputable abbrev PE := Vars → St → Option (PV × St)
noncomputable abbrev PT := Vars → St → Option (Bool × St)
noncomputable abbrev PI := Vars → St → Option (List PyData × St)
inductive PFlow where
  | next
  | ret (v : PV)
noncomputable abbrev PS := Vars → St → Option (PFlow × Vars × St)
noncomputable abbrev PF := List PV → St → Option (PV × St)
noncomputable def upd (vs : Vars) (k : Nat) (v : PV) : Vars := fun j => if j = k then some v else vs j
noncomputable def rd (st : St) : PV → Option PyData
  | .d x => some x
  | .ref i => match st[i]? with
    | some (.list xs) => some (.list xs)
    | _ => none
noncomputable def PV.data : PV → Option PyData
  | .d x => some x
  | .ref _ => none
noncomputable def eVar (k : Nat) : PE := fun vs st => (vs k).map fun v => (v, st)
noncomputable def eD (x : PyData) : PE := fun _ st => some (.d x, st)
noncomputable def eNewList : PE := fun _ st => some (.ref st.length, st ++ [.list []])
noncomputable def eNewIDict : PE := fun _ st => some (.ref st.length, st ++ [.idict []])
noncomputable def eSeq : List PE → Vars → St → Option (List PV × St)
  | [], _, st => some ([], st)
  | e :: es, vs, st => (e vs st).bind fun r => (eSeq es vs r.2).bind fun q => some (r.1 :: q.1, q.2)
noncomputable def datas : List PV → Option (List PyData)
  | [] => some []
  | v :: r => v.data.bind fun x => (datas r).map fun xs => x :: xs
noncomputable def eTup (es : List PE) : PE := fun vs st => (eSeq es vs st).bind fun r => (datas r.1).map fun xs => (.d (.tuple xs), r.2)
noncomputable def eLst (es : List PE) : PE := fun vs st => (eSeq es vs st).bind fun r => (datas r.1).map fun xs => (.d (.list xs), r.2)
noncomputable def eDict (ks : List Nat) (es : List PE) : PE := fun vs st => (eSeq es vs st).map fun r => (.ref r.2.length, r.2 ++ [.sdict (ks.zip r.1)])
noncomputable def eOp1 (f : PyData → Option PyData) (a : PE) : PE := fun vs st =>
  (a vs st).bind fun r => (rd r.2 r.1).bind fun x => (f x).map fun y => (.d y, r.2)
noncomputable def eOp2 (f : PyData → PyData → Option PyData) (a b : PE) : PE := fun vs st =>
  (a vs st).bind fun r => (b vs r.2).bind fun q => (rd q.2 r.1).bind fun x => (rd q.2 q.1).bind fun y => (f x y).map fun z => (.d z, q.2)
noncomputable def tOp2 (f : PyData → PyData → Option Bool) (a b : PE) : PT := fun vs st =>
  (a vs st).bind fun r => (b vs r.2).bind fun q => (rd q.2 r.1).bind fun x => (rd q.2 q.1).bind fun y => (f x y).map fun z => (z, q.2)
noncomputable def dB (f : PyData → PyData → Option Bool) (x y : PyData) : Option PyData := (f x y).map .bool
noncomputable def small (i : Int) : Bool := decide (-(2 ^ 40) ≤ i) && decide (i ≤ 2 ^ 40)
noncomputable def szOk (n : Nat) : Bool := decide (n ≤ 1000000)
noncomputable def dAdd : PyData → PyData → Option PyData
  | .int a, .int b => some (.int (a + b))
  | .tuple xs, .tuple ys => if szOk (xs.length + ys.length) then some (.tuple (xs ++ ys)) else none
  | .list xs, .list ys => if szOk (xs.length + ys.length) then some (.list (xs ++ ys)) else none
  | _, _ => none
noncomputable def dSub : PyData → PyData → Option PyData
  | .int a, .int b => some (.int (a - b))
  | _, _ => none
noncomputable def dMul : PyData → PyData → Option PyData
  | .int a, .int b => if small a && small b then some (.int (a * b)) else none
  | _, _ => none
noncomputable def dMod : PyData → PyData → Option PyData
  | .int a, .int b => if decide (0 < b) && small b then some (.int (Int.fmod a b)) else none
  | _, _ => none
noncomputable def dNeg : PyData → Option PyData
  | .int a => some (.int (-a))
  | _ => none
noncomputable def dNot : PyData → Option PyData
  | .bool b => some (.bool (!b))
  | _ => none
noncomputable def dAbs : PyData → Option PyData
  | .int a => some (.int a.natAbs)
  | _ => none
noncomputable def dLen : PyData → Option PyData
  | .list xs => if szOk xs.length then some (.int xs.length) else none
  | .tuple xs => if szOk xs.length then some (.int xs.length) else none
  | _ => none
noncomputable def dTuple : PyData → Option PyData
  | .list xs => if szOk xs.length then some (.tuple xs) else none
  | .tuple xs => some (.tuple xs)
  | _ => none
noncomputable def ints? : List PyData → Option (List Int)
  | [] => some []
  | .int i :: r => (ints? r).map fun l => i :: l
  | _ :: _ => none
noncomputable def dSum : PyData → Option PyData
  | .list xs => (ints? xs).map fun l => .int l.sum
  | _ => none
noncomputable def dMax : PyData → PyData → Option PyData
  | .int a, .int b => some (.int (max a b))
  | _, _ => none
noncomputable def dMin : PyData → PyData → Option PyData
  | .int a, .int b => some (.int (min a b))
  | _, _ => none
noncomputable def dIsBool : PyData → Option PyData
  | .bool _ => some (.bool true)
  | _ => none
noncomputable def idx (n : Nat) (i : Int) : Option Nat := if 0 ≤ i then (if i.toNat < n then some i.toNat else none) else if (-i).toNat ≤ n then some (n - (-i).toNat) else none
noncomputable def dItem : PyData → PyData → Option PyData
  | .list xs, .int i => if small i && szOk xs.length then (idx xs.length i).bind fun k => xs[k]? else none
  | .tuple xs, .int i => if small i && szOk xs.length then (idx xs.length i).bind fun k => xs[k]? else none
  | _, _ => none
noncomputable def dTake : PyData → PyData → Option PyData
  | .list xs, .int i => if decide (0 ≤ i) && small i && szOk xs.length then some (.list (xs.take i.toNat)) else none
  | _, _ => none
noncomputable def dDrop : PyData → PyData → Option PyData
  | .list xs, .int i => if decide (0 ≤ i) && small i && szOk xs.length then some (.list (xs.drop i.toNat)) else none
  | _, _ => none
noncomputable def eqOk (x y : PyData) : Bool := x.canLay0 && y.canLay0 && decide (x.depth ≤ 50)
noncomputable def qEq (x y : PyData) : Option Bool := if eqOk x y then some (PyData.eqv x y) else none
noncomputable def qNe (x y : PyData) : Option Bool := if eqOk x y then some (!PyData.eqv x y) else none
noncomputable def qLt : PyData → PyData → Option Bool
  | .int a, .int b => some (decide (a < b))
  | _, _ => none
noncomputable def qLe : PyData → PyData → Option Bool
  | .int a, .int b => some (decide (a ≤ b))
  | _, _ => none
noncomputable def qGt : PyData → PyData → Option Bool
  | .int a, .int b => some (decide (b < a))
  | _, _ => none
noncomputable def qGe : PyData → PyData → Option Bool
  | .int a, .int b => some (decide (b ≤ a))
  | _, _ => none
noncomputable def qIsNone : PyData → PyData → Option Bool
  | .none, .none => some true
  | .tuple _, .none => some false
  | _, _ => none
noncomputable def qIsNotNone : PyData → PyData → Option Bool
  | .none, .none => some false
  | .tuple _, .none => some true
  | _, _ => none
noncomputable def qIn (x : PyData) : PyData → Option Bool
  | .list ys => if PyData.canLayAll0 ys && x.canLay0 && decide (x.depth ≤ 50) then some (ys.any fun y => PyData.eqv y x) else none
  | _ => none
noncomputable def eIf (t : PT) (a b : PE) : PE := fun vs st => (t vs st).bind fun r => if r.1 then a vs r.2 else b vs r.2
noncomputable def eAnd (a b : PE) : PE := fun vs st => (a vs st).bind fun r => match r.1 with
  | .d (.bool c) => if c then b vs r.2 else some (.d (.bool false), r.2)
  | _ => none
noncomputable def eOr (a b : PE) : PE := fun vs st => (a vs st).bind fun r => match r.1 with
  | .d (.bool c) => if c then some (.d (.bool true), r.2) else b vs r.2
  | _ => none
noncomputable def tNot (a : PT) : PT := fun vs st => (a vs st).map fun r => (!r.1, r.2)
noncomputable def tAnd (a b : PT) : PT := fun vs st => (a vs st).bind fun r => if r.1 then b vs r.2 else some (false, r.2)
noncomputable def tOr (a b : PT) : PT := fun vs st => (a vs st).bind fun r => if r.1 then some (true, r.2) else b vs r.2
noncomputable def tVal (a : PE) : PT := fun vs st => (a vs st).bind fun r => match r.1 with
  | .d (.bool c) => some (c, r.2)
  | _ => none
noncomputable def attrsOf (st : St) : PV → Option (Nat × List (Nat × PV))
  | .ref i => match st[i]? with
    | some (.inst j) => match st[j]? with
      | some (.sdict es) => some (j, es)
      | _ => none
    | _ => none
  | _ => none
noncomputable def eAttr (a : PE) (k : Nat) : PE := fun vs st => (a vs st).bind fun r => (attrsOf r.2 r.1).bind fun q => (q.2.lookup k).map fun v => (v, r.2)
noncomputable def eKey (a : PE) (k : Nat) : PE := fun vs st => (a vs st).bind fun r => match r.1 with
  | .ref i => match r.2[i]? with
    | some (.sdict es) => (es.lookup k).map fun v => (v, r.2)
    | _ => none
  | _ => none
noncomputable def eCall (f : PF) (es : List PE) : PE := fun vs st => (eSeq es vs st).bind fun r => f r.1 r.2
noncomputable def attrCodes : List Nat := [36, 30, 37, 38, 39, 16, 40, 35]
noncomputable def eMeth (f : PF) (o : PE) (es : List PE) : PE := fun vs st => (o vs st).bind fun r => (attrsOf r.2 r.1).bind fun z =>
  if z.2.all (fun e => attrCodes.contains e.1) then (eSeq es vs r.2).bind fun q => f (r.1 :: q.1) q.2 else none
noncomputable def isList (st : St) (i : Nat) : Bool := match st[i]? with
  | some (.list _) => true
  | _ => false
noncomputable def eAppend (o e : PE) : PE := fun vs st => (o vs st).bind fun r => match r.1 with
  | .ref i => if isList r.2 i then (e vs r.2).bind fun q => match q.2[i]?, q.1 with
      | some (.list xs), .d y => if szOk xs.length then some (.d .none, q.2.set i (.list (xs ++ [y]))) else none
      | _, _ => none
    else none
  | _ => none
noncomputable def ePop (o : PE) : PE := fun vs st => (o vs st).bind fun r => match r.1 with
  | .ref i => match r.2[i]? with
    | some (.list xs) => if szOk xs.length then xs.getLast?.map fun y => (.d y, r.2.set i (.list xs.dropLast)) else none
    | _ => none
  | _ => none
noncomputable def eTakeM (a b : PE) : PE := fun vs st => (a vs st).bind fun r => (b vs r.2).bind fun q => (rd q.2 r.1).bind fun x => (rd q.2 q.1).bind fun y => match dTake x y with
  | some (.list xs) => some (.ref q.2.length, q.2 ++ [.list xs])
  | _ => none
noncomputable def insertSorted (x : Int) : List Int → List Int
  | [] => [x]
  | y :: r => if x ≤ y then x :: y :: r else y :: insertSorted x r
noncomputable def isort : List Int → List Int
  | [] => []
  | x :: r => insertSorted x (isort r)
noncomputable def eSortedKeys (a : PE) : PE := fun vs st => (a vs st).bind fun r => match r.1 with
  | .ref i => match r.2[i]? with
    | some (.idict ks) => if decide (ks.length < 64) then some (.d (.list ((isort ks).map .int)), r.2) else none
    | _ => none
  | _ => none
noncomputable def insL (x : Int) (l : List Int) : List Int := if l.contains x then l else insertSorted x l
noncomputable def foldI (l : List Int) (xs : List Int) : List Int := xs.foldl (fun l x => insL x l) l
noncomputable def dSortedSet : PyData → Option PyData
  | .list xs => (ints? xs).bind fun l => if l.all (fun i => decide (0 ≤ i) && decide (i ≤ 2)) then some (.list ((foldI [] l).map .int)) else none
  | _ => none
noncomputable def eNew (init : PF) : PE := fun _ st => (init [.ref (st.length + 1)] (st ++ [.sdict []] ++ [.inst st.length])).bind fun r => match r.1 with
  | .d .none => some (.ref (st.length + 1), r.2)
  | _ => none
noncomputable def rangeL (a : Int) : Nat → List PyData
  | 0 => []
  | n + 1 => .int a :: rangeL (a + 1) n
noncomputable def iVal (a : PE) : PI := fun vs st => (a vs st).bind fun r => match r.1 with
  | .d (.list xs) => if szOk xs.length then some (xs, r.2) else none
  | .d (.tuple xs) => if szOk xs.length then some (xs, r.2) else none
  | _ => none
noncomputable def iRange1 (b : PE) : PI := fun vs st => (b vs st).bind fun r => match r.1 with
  | .d (.int n) => if small n && decide (n ≤ 1000) then some (rangeL 0 n.toNat, r.2) else none
  | _ => none
noncomputable def iRange2 (a b : PE) : PI := fun vs st => (a vs st).bind fun r => (b vs r.2).bind fun q => match r.1, q.1 with
  | .d (.int m), .d (.int n) => if small m && small n && decide (n - m ≤ 1000) then some (rangeL m (n - m).toNat, q.2) else none
  | _, _ => none
noncomputable def eListRange (b : PE) : PE := fun vs st => (iRange1 b vs st).map fun r => (.d (.list r.1), r.2)
inductive Tgt where
  | one (k : Nat)
  | two (k l : Nat)
noncomputable def Tgt.ks : Tgt → List Nat
  | .one k => [k]
  | .two k l => [k, l]
noncomputable def Tgt.put : Tgt → Vars → PyData → Option Vars
  | .one k, vs, x => some (upd vs k (.d x))
  | .two k l, vs, .tuple [x, y] => some (upd (upd vs k (.d x)) l (.d y))
  | .two _ _, _, _ => none
noncomputable def tIfs : List PT → PT
  | [], _, st => some (true, st)
  | t :: ts, vs, st => (t vs st).bind fun r => if r.1 then tIfs ts vs r.2 else some (false, r.2)
noncomputable def compL (t : Tgt) (ifs : List PT) (elt : PE) : List PyData → Vars → St → Option (List PyData × St)
  | [], _, st => some ([], st)
  | x :: xs, vs, st => (t.put vs x).bind fun vs1 => (tIfs ifs vs1 st).bind fun r =>
      if r.1 then (elt vs1 r.2).bind fun q => q.1.data.bind fun y => (compL t ifs elt xs vs q.2).map fun u => (y :: u.1, u.2)
      else compL t ifs elt xs vs r.2
noncomputable def eComp (t : Tgt) (it : PI) (ifs : List PT) (elt : PE) : PE := fun vs st => (it vs st).bind fun r => (compL t ifs elt r.1 vs r.2).map fun q => (.d (.list q.1), q.2)
noncomputable def compL2 (t u : Tgt) (it2 : PI) (elt : PE) : List PyData → Vars → St → Option (List PyData × St)
  | [], _, st => some ([], st)
  | x :: xs, vs, st => (t.put vs x).bind fun vs1 => (it2 vs1 st).bind fun r => (compL u [] elt r.1 vs1 r.2).bind fun q => (compL2 t u it2 elt xs vs q.2).map fun z => (q.1 ++ z.1, z.2)
noncomputable def eComp2 (t u : Tgt) (it it2 : PI) (elt : PE) : PE := fun vs st => (it vs st).bind fun r => (compL2 t u it2 elt r.1 (fun k => if k ∈ u.ks then none else vs k) r.2).bind fun q => if szOk q.1.length then some (.d (.list q.1), q.2) else none
noncomputable def sRet (e : PE) : PS := fun vs st => (e vs st).map fun r => (.ret r.1, vs, r.2)
noncomputable def sRetNone : PS := fun vs st => some (.ret (.d .none), vs, st)
noncomputable def sAssign (k : Nat) (e : PE) : PS := fun vs st => (e vs st).map fun r => (.next, upd vs k r.1, r.2)
noncomputable def updAll (vs : Vars) : List Nat → List PV → Option Vars
  | [], [] => some vs
  | k :: ks, v :: r => updAll (upd vs k v) ks r
  | _, _ => none
noncomputable def sAssignTup (ks : List Nat) (es : List PE) : PS := fun vs st => (eSeq es vs st).bind fun r => (updAll vs ks r.1).map fun vs' => (.next, vs', r.2)
noncomputable def sUnpack (ks : List Nat) (e : PE) : PS := fun vs st => (e vs st).bind fun r => match r.1 with
  | .d (.tuple xs) => (updAll vs ks (xs.map .d)).map fun vs' => (.next, vs', r.2)
  | _ => none
noncomputable def setKey (es : List (Nat × PV)) (k : Nat) (v : PV) : List (Nat × PV) := match es with
  | [] => [(k, v)]
  | e :: r => if e.1 = k then (k, v) :: r else e :: setKey r k v
noncomputable def sAttrSet (o : PE) (k : Nat) (e : PE) : PS := fun vs st => (e vs st).bind fun r => (o vs r.2).bind fun q => (attrsOf q.2 q.1).bind fun z => if szOk z.2.length then some (.next, vs, q.2.set z.1 (.sdict (setKey z.2 k r.1))) else none
noncomputable def putKey (st : St) (v : PV) (k : Nat) (x : PV) : Option St := match v with
  | .ref i => match st[i]? with
    | some (.sdict es) => if (es.lookup k).isSome && szOk es.length then some (st.set i (.sdict (setKey es k x))) else none
    | _ => none
  | _ => none
noncomputable def sKeySet (o : PE) (k : Nat) (e : PE) : PS := fun vs st => (e vs st).bind fun r => (o vs r.2).bind fun q => (putKey q.2 q.1 k r.1).map fun st' => (.next, vs, st')
noncomputable def sKeySet2 (o : PE) (k : Nat) (o2 : PE) (k2 : Nat) (e : PE) : PS := fun vs st => (e vs st).bind fun r => match r.1 with
  | .d (.tuple [x, y]) => (o vs r.2).bind fun q => (putKey q.2 q.1 k (.d x)).bind fun st1 => (o2 vs st1).bind fun q2 => (putKey q2.2 q2.1 k2 (.d y)).map fun st2 => (.next, vs, st2)
  | _ => none
noncomputable def sItemSet (o i e : PE) : PS := fun vs st => (e vs st).bind fun r => (o vs r.2).bind fun q => (i vs q.2).bind fun z => match q.1, z.1 with
  | .ref h, .d (.int n) => match z.2[h]?, r.1 with
    | some (.list xs), .d y => if small n && szOk xs.length then (idx xs.length n).map fun k => (.next, vs, z.2.set h (.list (xs.set k y))) else none
    | some (.idict ks), .d _ => if small n && szOk ks.length then some (.next, vs, z.2.set h (.idict (if ks.contains n then ks else ks ++ [n]))) else none
    | _, _ => none
  | _, _ => none
noncomputable def sExpr (e : PE) : PS := fun vs st => (e vs st).map fun r => (.next, vs, r.2)
noncomputable def sSeq : List PS → PS
  | [], vs, st => some (.next, vs, st)
  | p :: ps, vs, st => (p vs st).bind fun r => match r.1 with
    | .next => sSeq ps r.2.1 r.2.2
    | .ret v => some (.ret v, r.2.1, r.2.2)
noncomputable def sIf (t : PT) (a b : List PS) : PS := fun vs st => (t vs st).bind fun r => if r.1 then sSeq a vs r.2 else sSeq b vs r.2
noncomputable def forL (t : Tgt) (body : PS) : List PyData → PS
  | [], vs, st => some (.next, vs, st)
  | x :: xs, vs, st => (t.put vs x).bind fun vs1 => (body vs1 st).bind fun r => match r.1 with
    | .next => forL t body xs r.2.1 r.2.2
    | .ret v => some (.ret v, r.2.1, r.2.2)
noncomputable def sFor (t : Tgt) (it : PI) (body : List PS) : PS := fun vs st => (it vs st).bind fun r => forL t (sSeq body) r.1 vs r.2
noncomputable def whileN (t : PT) (body : PS) : Nat → PS
  | 0, _, _ => none
  | n + 1, vs, st => (t vs st).bind fun r => if r.1 then (body vs r.2).bind fun q => match q.1 with
      | .next => whileN t body n q.2.1 q.2.2
      | .ret v => some (.ret v, q.2.1, q.2.2)
    else some (.next, vs, r.2)
noncomputable def sWhile (t : PT) (body : List PS) : PS := whileN t (sSeq body) 1000
noncomputable def bindP : List Nat → List PV → Option Vars
  | [], [] => some fun _ => none
  | k :: ks, v :: r => (bindP ks r).map fun vs => upd vs k v
  | _, _ => none
noncomputable def fFun (ps : List Nat) (body : List PS) : PF := fun args st => (bindP ps args).bind fun vs => (sSeq body vs st).map fun r => match r.1 with
  | .next => (.d .none, r.2.2)
  | .ret v => (v, r.2.2)
end Mine
end
section
namespace Mine
open PySem
noncomputable def bf_least : List PS := [
    (sRet (eOp2 dItem (eOp2 dItem (eVar 0) (eD (.int 0))) (eD (.int 0))))]
noncomputable def f_least : PF := fFun [0] bf_least
noncomputable def bf_greatest : List PS := [
    (sRet (eOp2 dItem (eOp2 dItem (eVar 0) (eOp1 dNeg (eD (.int 1)))) (eD (.int 1))))]
noncomputable def f_greatest : PF := fFun [0] bf_greatest
noncomputable def bf_size : List PS := [
    (sRet (eOp1 dSum (eComp (.two 2 3) (iVal (eVar 0)) [] (eOp2 dAdd (eOp2 dSub (eVar 3) (eVar 2)) (eD (.int 1))))))]
noncomputable def f_size : PF := fFun [0] bf_size
noncomputable def bf_next_from : List PS := [
    (sFor (.two 2 3) (iVal (eVar 0)) [(sIf (tOp2 qLe (eVar 1) (eVar 3)) [(sRet (eOp2 dMax (eVar 2) (eVar 1)))] [])]),
    (sRet (eD .none))]
noncomputable def f_next_from : PF := fFun [0, 1] bf_next_from
noncomputable def bf_has : List PS := [
    (sRet (eOp2 (dB qEq) (eCall f_next_from [(eVar 0), (eVar 1)]) (eVar 1)))]
noncomputable def f_has : PF := fFun [0, 1] bf_has
noncomputable def bf_up_to : List PS := [
    (sRet (eOp1 dTuple (eComp (.two 2 3) (iVal (eVar 0)) [(tOp2 qLe (eVar 2) (eVar 4))] (eTup [(eVar 2), (eOp2 dMin (eVar 3) (eVar 4))]))))]
noncomputable def f_up_to : PF := fFun [0, 4] bf_up_to
noncomputable def bf_from_on : List PS := [
    (sRet (eOp1 dTuple (eComp (.two 2 3) (iVal (eVar 0)) [(tOp2 qGe (eVar 3) (eVar 4))] (eTup [(eOp2 dMax (eVar 2) (eVar 4)), (eVar 3)]))))]
noncomputable def f_from_on : PF := fFun [0, 4] bf_from_on
noncomputable def bf_without : List PS := [
    (sRet (eOp2 dAdd (eCall f_up_to [(eVar 0), (eOp2 dSub (eVar 1) (eD (.int 1)))]) (eCall f_from_on [(eVar 0), (eOp2 dAdd (eVar 1) (eD (.int 1)))])))]
noncomputable def f_without : PF := fFun [0, 1] bf_without
noncomputable def bf_meet : List PS := [
    (sAssignTup [6, 7, 8] [eNewList, (eD (.int 0)), (eD (.int 0))]),
    (sWhile (tAnd (tOp2 qLt (eVar 7) (eOp1 dLen (eVar 0))) (tOp2 qLt (eVar 8) (eOp1 dLen (eVar 5)))) [(sAssignTup [2, 3] [(eOp2 dMax (eOp2 dItem (eOp2 dItem (eVar 0) (eVar 7)) (eD (.int 0))) (eOp2 dItem (eOp2 dItem (eVar 5) (eVar 8)) (eD (.int 0)))), (eOp2 dMin (eOp2 dItem (eOp2 dItem (eVar 0) (eVar 7)) (eD (.int 1))) (eOp2 dItem (eOp2 dItem (eVar 5) (eVar 8)) (eD (.int 1))))]),
    (sIf (tOp2 qLe (eVar 2) (eVar 3)) [(sExpr (eAppend (eVar 6) (eTup [(eVar 2), (eVar 3)])))] []),
    (sIf (tOp2 qLt (eOp2 dItem (eOp2 dItem (eVar 0) (eVar 7)) (eD (.int 1))) (eOp2 dItem (eOp2 dItem (eVar 5) (eVar 8)) (eD (.int 1)))) [(sAssign 7 (eOp2 dAdd (eVar 7) (eD (.int 1))))] [(sAssign 8 (eOp2 dAdd (eVar 8) (eD (.int 1))))])]),
    (sRet (eOp1 dTuple (eVar 6)))]
noncomputable def f_meet : PF := fFun [0, 5] bf_meet
noncomputable def bf_negation : List PS := [
    (sUnpack [10, 11, 4] (eVar 9)),
    (sIf (tOp2 qEq (eVar 11) (eD (.str "<="))) [(sRet (eTup [(eVar 10), (eD (.str ">=")), (eOp2 dAdd (eVar 4) (eD (.int 1)))]))] []),
    (sIf (tOp2 qEq (eVar 11) (eD (.str ">="))) [(sRet (eTup [(eVar 10), (eD (.str "<=")), (eOp2 dSub (eVar 4) (eD (.int 1)))]))] []),
    (sRet (eIf (tOp2 qEq (eVar 11) (eD (.str "="))) (eTup [(eVar 10), (eD (.str "!=")), (eVar 4)]) (eTup [(eVar 10), (eD (.str "=")), (eVar 4)])))]
noncomputable def f_negation : PF := fFun [9] bf_negation
noncomputable def bf_struck : List PS := [
    (sAssignTup [11, 4] [(eOp2 dItem (eVar 9) (eD (.int 1))), (eOp2 dItem (eVar 9) (eD (.int 2)))]),
    (sIf (tOp2 qEq (eVar 11) (eD (.str "<="))) [(sRet (eCall f_up_to [(eVar 0), (eVar 4)]))] []),
    (sIf (tOp2 qEq (eVar 11) (eD (.str ">="))) [(sRet (eCall f_from_on [(eVar 0), (eVar 4)]))] []),
    (sRet (eIf (tOp2 qEq (eVar 11) (eD (.str "="))) (eCall f_meet [(eVar 0), (eTup [(eTup [(eVar 4), (eVar 4)])])]) (eCall f_without [(eVar 0), (eVar 4)])))]
noncomputable def f_struck : PF := fFun [9, 0] bf_struck
noncomputable def bf_said_of : List PS := [
    (sAssign 12 (eCall f_struck [(eVar 9), (eVar 0)])),
    (sIf (tOp2 qEq (eVar 12) (eVar 0)) [(sRet (eD (.int 1)))] []),
    (sRet (eIf (tOp2 qEq (eVar 12) (eTup [])) (eOp1 dNeg (eD (.int 1))) (eD (.int 0))))]
noncomputable def f_said_of : PF := fFun [9, 0] bf_said_of
noncomputable def bm__init__ : List PS := [
    (sAttrSet (eVar 13) 36 eNewList),
    (sAttrSet (eVar 13) 30 eNewList),
    (sAttrSet (eVar 13) 37 eNewList),
    (sAttrSet (eVar 13) 38 eNewList),
    (sAttrSet (eVar 13) 39 eNewIDict),
    (sAttrSet (eVar 13) 16 (eOp1 dNeg (eD (.int 1)))),
    (sAttrSet (eVar 13) 40 (eD (.bool false))),
    (sAttrSet (eVar 13) 35 (eTup []))]
noncomputable def m__init__ : PF := fFun [13] bm__init__
noncomputable def bm_fail : List PS := [
    (sAttrSet (eVar 13) 40 (eD (.bool true))),
    (sAttrSet (eVar 13) 35 (eOp1 dTuple (eVar 15))),
    (sRet (eD (.bool false)))]
noncomputable def m_fail : PF := fFun [13, 15] bm_fail
noncomputable def bm_new_var : List PS := [
    (sExpr (eAppend (eAttr (eVar 13) 36) (eVar 14))),
    (sExpr (eAppend (eAttr (eVar 13) 30) (eVar 14))),
    (sIf (tOp2 qEq (eVar 14) (eTup [])) [(sExpr (eMeth m_fail (eVar 13) [(eTup [])]))] []),
    (sRet (eOp2 dSub (eOp1 dLen (eAttr (eVar 13) 36)) (eD (.int 1))))]
noncomputable def m_new_var : PF := fFun [13, 14] bm_new_var
noncomputable def bm_size : List PS := [
    (sRet (eOp1 dLen (eAttr (eVar 13) 36)))]
noncomputable def m_size : PF := fFun [13] bm_size
noncomputable def bm_dom : List PS := [
    (sRet (eOp2 dItem (eAttr (eVar 13) 36) (eVar 10)))]
noncomputable def m_dom : PF := fFun [13, 10] bm_dom
noncomputable def bm_initial : List PS := [
    (sRet (eOp2 dItem (eAttr (eVar 13) 30) (eVar 10)))]
noncomputable def m_initial : PF := fFun [13, 10] bm_initial
noncomputable def bm_low : List PS := [
    (sRet (eCall f_least [(eOp2 dItem (eAttr (eVar 13) 36) (eVar 10))]))]
noncomputable def m_low : PF := fFun [13, 10] bm_low
noncomputable def bm_high : List PS := [
    (sRet (eCall f_greatest [(eOp2 dItem (eAttr (eVar 13) 36) (eVar 10))]))]
noncomputable def m_high : PF := fFun [13, 10] bm_high
noncomputable def bm_has : List PS := [
    (sRet (eCall f_has [(eOp2 dItem (eAttr (eVar 13) 36) (eVar 10)), (eVar 1)]))]
noncomputable def m_has : PF := fFun [13, 10, 1] bm_has
noncomputable def bm_is_fixed : List PS := [
    (sAssign 14 (eOp2 dItem (eAttr (eVar 13) 36) (eVar 10))),
    (sRet (eAnd (eOp2 (dB qEq) (eOp1 dLen (eVar 14)) (eD (.int 1))) (eOp2 (dB qEq) (eOp2 dItem (eOp2 dItem (eVar 14) (eD (.int 0))) (eD (.int 0))) (eOp2 dItem (eOp2 dItem (eVar 14) (eD (.int 0))) (eD (.int 1))))))]
noncomputable def m_is_fixed : PF := fFun [13, 10] bm_is_fixed
noncomputable def bm_value : List PS := [
    (sRet (eOp2 dItem (eOp2 dItem (eOp2 dItem (eAttr (eVar 13) 36) (eVar 10)) (eD (.int 0))) (eD (.int 0))))]
noncomputable def m_value : PF := fFun [13, 10] bm_value
noncomputable def bm_width : List PS := [
    (sRet (eCall f_size [(eOp2 dItem (eAttr (eVar 13) 36) (eVar 10))]))]
noncomputable def m_width : PF := fFun [13, 10] bm_width
noncomputable def bm_holds : List PS := [
    (sRet (eCall f_said_of [(eVar 9), (eOp2 dItem (eAttr (eVar 13) 36) (eOp2 dItem (eVar 9) (eD (.int 0))))]))]
noncomputable def m_holds : PF := fFun [13, 9] bm_holds
noncomputable def bm_enter : List PS := [
    (sAssign 10 (eOp2 dItem (eVar 9) (eD (.int 0)))),
    (sAssign 17 (eOp2 dItem (eAttr (eVar 13) 36) (eVar 10))),
    (sAssign 18 (eCall f_struck [(eVar 9), (eVar 17)])),
    (sIf (tOp2 qEq (eVar 18) (eTup [])) [(sRet (eMeth m_fail (eVar 13) [(eOp2 dAdd (eIf (tOp2 qIsNone (eVar 15) (eD .none)) (eTup []) (eVar 15)) (eTup [(eCall f_negation [(eVar 9)])]))]))] []),
    (sIf (tOp2 qEq (eVar 18) (eVar 17)) [(sRet (eD (.bool true)))] []),
    (sExpr (eAppend (eAttr (eVar 13) 37) (eTup [(eVar 10), (eVar 17), (eVar 9), (eVar 15), (eVar 16)]))),
    (sItemSet (eAttr (eVar 13) 36) (eVar 10) (eVar 18)),
    (sItemSet (eAttr (eVar 13) 39) (eVar 10) (eD (.bool true))),
    (sRet (eD (.bool true)))]
noncomputable def m_enter : PF := fFun [13, 9, 15, 16] bm_enter
noncomputable def bm_strike : List PS := [
    (sRet (eMeth m_enter (eVar 13) [(eVar 9), (eOp1 dTuple (eVar 15)), (eAttr (eVar 13) 16)]))]
noncomputable def m_strike : PF := fFun [13, 9, 15] bm_strike
noncomputable def bm_decide : List PS := [
    (sRet (eMeth m_enter (eVar 13) [(eVar 9), (eD .none), (eOp1 dNeg (eD (.int 1)))]))]
noncomputable def m_decide : PF := fFun [13, 9] bm_decide
noncomputable def bm_push : List PS := [
    (sExpr (eAppend (eAttr (eVar 13) 38) (eOp1 dLen (eAttr (eVar 13) 37))))]
noncomputable def m_push : PF := fFun [13] bm_push
noncomputable def bm_pop : List PS := [
    (sIf (tOp2 qLt (eVar 19) (eD (.int 1))) [sRetNone] []),
    (sAssign 20 (eOp2 dItem (eAttr (eVar 13) 38) (eOp2 dSub (eOp1 dLen (eAttr (eVar 13) 38)) (eVar 19)))),
    (sAttrSet (eVar 13) 38 (eTakeM (eAttr (eVar 13) 38) (eOp2 dSub (eOp1 dLen (eAttr (eVar 13) 38)) (eVar 19)))),
    (sWhile (tOp2 qGt (eOp1 dLen (eAttr (eVar 13) 37)) (eVar 20)) [(sAssign 21 (ePop (eAttr (eVar 13) 37))),
    (sItemSet (eAttr (eVar 13) 36) (eOp2 dItem (eVar 21) (eD (.int 0))) (eOp2 dItem (eVar 21) (eD (.int 1))))]),
    (sAttrSet (eVar 13) 39 eNewIDict),
    (sAttrSet (eVar 13) 40 (eOp2 (dB qIn) (eTup []) (eAttr (eVar 13) 30))),
    (sAttrSet (eVar 13) 35 (eTup []))]
noncomputable def m_pop : PF := fFun [13, 19] bm_pop
noncomputable def bm_depth : List PS := [
    (sRet (eOp1 dLen (eAttr (eVar 13) 38)))]
noncomputable def m_depth : PF := fFun [13] bm_depth
noncomputable def bm_changed : List PS := [
    (sAssign 6 (eSortedKeys (eAttr (eVar 13) 39))),
    (sAttrSet (eVar 13) 39 eNewIDict),
    (sRet (eVar 6))]
noncomputable def m_changed : PF := fFun [13] bm_changed
noncomputable def bf_law_draw : List PS := [
    (sAssign 4 (eKey (eVar 22) 42)),
    (sKeySet (eVar 22) 42 (eOp2 dAdd (eVar 4) (eD (.int 1)))),
    (sIf (tOp2 qLt (eVar 4) (eOp1 dLen (eKey (eVar 22) 41))) [(sRet (eOp2 dMod (eOp1 dAbs (eOp2 dItem (eKey (eVar 22) 41) (eVar 4))) (eVar 23)))] []),
    (sRet (eOp2 dMod (eOp2 dMod (eOp2 dAdd (eOp2 dAdd (eOp2 dAdd (eOp2 dMul (eD (.int 7)) (eKey (eVar 22) 43)) (eOp2 dMul (eOp2 dMul (eD (.int 37)) (eVar 4)) (eVar 4))) (eOp2 dMul (eD (.int 11)) (eVar 4))) (eD (.int 3))) (eD (.int 101))) (eVar 23)))]
noncomputable def f_law_draw : PF := fFun [22, 23] bf_law_draw
noncomputable def bf_law_ranges : List PS := [
    (sAssign 6 eNewList),
    (sFor (.one 1) (iVal (eVar 24)) [(sIf (tAnd (tOp2 qNe (eVar 6) (eLst [])) (tOp2 qEq (eOp2 dAdd (eOp2 dItem (eOp2 dItem (eVar 6) (eOp1 dNeg (eD (.int 1)))) (eD (.int 1))) (eD (.int 1))) (eVar 1))) [(sItemSet (eVar 6) (eOp1 dNeg (eD (.int 1))) (eTup [(eOp2 dItem (eOp2 dItem (eVar 6) (eOp1 dNeg (eD (.int 1)))) (eD (.int 0))), (eVar 1)]))] [(sExpr (eAppend (eVar 6) (eTup [(eVar 1), (eVar 1)])))])]),
    (sRet (eOp1 dTuple (eVar 6)))]
noncomputable def f_law_ranges : PF := fFun [24] bf_law_ranges
noncomputable def bf_law_keeps : List PS := [
    (sIf (tOr (tOp2 qEq (eVar 11) (eD (.str "<="))) (tOp2 qEq (eVar 11) (eD (.str ">=")))) [(sRet (eIf (tOp2 qEq (eVar 11) (eD (.str "<="))) (eOp2 (dB qLe) (eVar 1) (eVar 4)) (eOp2 (dB qGe) (eVar 1) (eVar 4))))] []),
    (sRet (eIf (tOp2 qEq (eVar 11) (eD (.str "="))) (eOp2 (dB qEq) (eVar 1) (eVar 4)) (eOp2 (dB qNe) (eVar 1) (eVar 4))))]
noncomputable def f_law_keeps : PF := fFun [1, 11, 4] bf_law_keeps
noncomputable def bf_law_against : List PS := [
    (sUnpack [10, 11, 4] (eVar 9)),
    (sIf (tOr (tOp2 qEq (eVar 11) (eD (.str "<="))) (tOp2 qEq (eVar 11) (eD (.str ">=")))) [(sRet (eIf (tOp2 qEq (eVar 11) (eD (.str "<="))) (eTup [(eVar 10), (eD (.str ">=")), (eOp2 dAdd (eVar 4) (eD (.int 1)))]) (eTup [(eVar 10), (eD (.str "<=")), (eOp2 dSub (eVar 4) (eD (.int 1)))])))] []),
    (sRet (eTup [(eVar 10), (eIf (tOp2 qEq (eVar 11) (eD (.str "="))) (eD (.str "!=")) (eD (.str "="))), (eVar 4)]))]
noncomputable def f_law_against : PF := fFun [9] bf_law_against
noncomputable def bf_law_literal : List PS := [
    (sAssignTup [10, 11] [(eCall f_law_draw [(eVar 22), (eVar 23)]), (eOp2 dItem (eLst [(eD (.str "<=")), (eD (.str ">=")), (eD (.str "=")), (eD (.str "!="))]) (eCall f_law_draw [(eVar 22), (eD (.int 4))]))]),
    (sRet (eTup [(eVar 10), (eVar 11), (eOp2 dSub (eCall f_law_draw [(eVar 22), (eD (.int 9))]) (eD (.int 2)))]))]
noncomputable def f_law_literal : PF := fFun [22, 23] bf_law_literal
noncomputable def bf_law_numbers : List PS := [
    (sAssign 25 (eOp2 dSub (eCall f_law_draw [(eVar 22), (eD (.int 4))]) (eD (.int 1)))),
    (sAssignTup [23, 26] [(eOp2 dAdd (eD (.int 1)) (eCall f_law_draw [(eVar 22), (eD (.int 5))])), (eCall f_law_draw [(eVar 22), (eD (.int 6))])]),
    (sAssign 24 (eComp (.one 1) (iRange2 (eVar 25) (eOp2 dAdd (eVar 25) (eVar 23))) [(tOp2 qNe (eVar 1) (eOp2 dAdd (eVar 25) (eVar 26)))] (eVar 1))),
    (sRet (eIf (tOp2 qNe (eVar 24) (eLst [])) (eVar 24) (eLst [(eVar 25)])))]
noncomputable def f_law_numbers : PF := fFun [22] bf_law_numbers
noncomputable def bf_law_said : List PS := [
    (sAssign 12 (eComp (.one 1) (iVal (eOp2 dItem (eVar 27) (eOp2 dItem (eVar 9) (eD (.int 0))))) [(tVal (eCall f_law_keeps [(eVar 1), (eOp2 dItem (eVar 9) (eD (.int 1))), (eOp2 dItem (eVar 9) (eD (.int 2)))]))] (eVar 1))),
    (sIf (tOp2 qEq (eVar 12) (eOp2 dItem (eVar 27) (eOp2 dItem (eVar 9) (eD (.int 0))))) [(sRet (eD (.int 1)))] []),
    (sRet (eIf (tOp2 qEq (eVar 12) (eLst [])) (eOp1 dNeg (eD (.int 1))) (eD (.int 0))))]
noncomputable def f_law_said : PF := fFun [27, 9] bf_law_said
noncomputable def bf_law_struck : List PS := [
    (sAssign 10 (eOp2 dItem (eVar 9) (eD (.int 0)))),
    (sAssign 17 (eOp2 dItem (eKey (eVar 29) 27) (eVar 10))),
    (sAssign 12 (eComp (.one 1) (iVal (eVar 17)) [(tVal (eCall f_law_keeps [(eVar 1), (eOp2 dItem (eVar 9) (eD (.int 1))), (eOp2 dItem (eVar 9) (eD (.int 2)))]))] (eVar 1))),
    (sIf (tOp2 qEq (eVar 12) (eLst [])) [(sRet (eOp2 dAdd (eIf (tOp2 qIsNone (eVar 15) (eD .none)) (eTup []) (eVar 15)) (eTup [(eCall f_law_against [(eVar 9)])])))] []),
    (sIf (tOp2 qNe (eVar 12) (eVar 17)) [(sKeySet (eVar 29) 37 (eOp2 dAdd (eKey (eVar 29) 37) (eLst [(eTup [(eVar 10), (eCall f_law_ranges [(eVar 17)]), (eVar 9), (eVar 15), (eVar 16)])]))),
    (sKeySet (eVar 29) 27 (eOp2 dAdd (eOp2 dAdd (eOp2 dTake (eKey (eVar 29) 27) (eVar 10)) (eLst [(eVar 12)])) (eOp2 dDrop (eKey (eVar 29) 27) (eOp2 dAdd (eVar 10) (eD (.int 1)))))),
    (sKeySet (eVar 29) 39 (eOp1 dSortedSet (eOp2 dAdd (eKey (eVar 29) 39) (eLst [(eVar 10)]))))] []),
    (sRet (eD .none))]
noncomputable def f_law_struck : PF := fFun [29, 9, 15, 16] bf_law_struck
noncomputable def bf_law_is_seen : List PS := [
    (sFor (.one 10) (iRange1 (eOp1 dLen (eVar 30))) [(sAssign 24 (eOp2 dItem (eKey (eVar 29) 27) (eVar 10))),
    (sIf (tOr (tOp2 qNe (eMeth m_dom (eVar 28) [(eVar 10)]) (eCall f_law_ranges [(eVar 24)])) (tOp2 qNe (eMeth m_initial (eVar 28) [(eVar 10)]) (eCall f_law_ranges [(eOp2 dItem (eVar 30) (eVar 10))]))) [(sRet (eD (.bool false)))] []),
    (sIf (tOp2 qNe (eTup [(eMeth m_low (eVar 28) [(eVar 10)]), (eMeth m_high (eVar 28) [(eVar 10)]), (eMeth m_width (eVar 28) [(eVar 10)])]) (eTup [(eOp2 dItem (eVar 24) (eD (.int 0))), (eOp2 dItem (eVar 24) (eOp1 dNeg (eD (.int 1)))), (eOp1 dLen (eVar 24))])) [(sRet (eD (.bool false)))] []),
    (sIf (tOr (tOp2 qNe (eMeth m_is_fixed (eVar 28) [(eVar 10)]) (eOp2 (dB qEq) (eOp1 dLen (eVar 24)) (eD (.int 1)))) (tAnd (tOp2 qEq (eOp1 dLen (eVar 24)) (eD (.int 1))) (tOp2 qNe (eMeth m_value (eVar 28) [(eVar 10)]) (eOp2 dItem (eVar 24) (eD (.int 0)))))) [(sRet (eD (.bool false)))] []),
    (sIf (tOp2 qNe (eComp (.one 1) (iRange2 (eOp1 dNeg (eD (.int 3))) (eD (.int 10))) [(tVal (eMeth m_has (eVar 28) [(eVar 10), (eVar 1)]))] (eVar 1)) (eVar 24)) [(sRet (eD (.bool false)))] []),
    (sFor (.one 9) (iVal (eComp2 (.one 11) (.one 4) (iVal (eTup [(eD (.str "<=")), (eD (.str ">=")), (eD (.str "=")), (eD (.str "!="))])) (iVal (eTup [(eD (.int 0)), (eD (.int 3))])) (eTup [(eVar 10), (eVar 11), (eVar 4)]))) [(sIf (tOp2 qNe (eMeth m_holds (eVar 28) [(eVar 9)]) (eCall f_law_said [(eKey (eVar 29) 27), (eVar 9)])) [(sRet (eD (.bool false)))] [])])]),
    (sRet (eAnd (eOp2 (dB qEq) (eAttr (eVar 28) 37) (eKey (eVar 29) 37)) (eAnd (eOp2 (dB qEq) (eMeth m_depth (eVar 28) []) (eOp1 dLen (eKey (eVar 29) 38))) (eOp2 (dB qEq) (eMeth m_size (eVar 28) []) (eOp1 dLen (eVar 30))))))]
noncomputable def f_law_is_seen : PF := fFun [28, 29, 30] bf_law_is_seen
noncomputable def bf_law_begun : List PS := [
    (sExpr (eMeth m_push (eVar 28) [])),
    (sExpr (eAppend (eKey (eVar 29) 38) (eTup [(eKey (eVar 29) 27), (eKey (eVar 29) 37)]))),
    (sRet (eOp1 dNot (eAttr (eVar 28) 40)))]
noncomputable def f_law_begun : PF := fFun [28, 29] bf_law_begun
noncomputable def bf_law_taken_back : List PS := [
    (sExpr (eMeth m_pop (eVar 28) [(eVar 23)])),
    (sFor (.one 31) (iRange1 (eVar 23)) [(sKeySet2 (eVar 29) 27 (eVar 29) 37 (ePop (eKey (eVar 29) 38)))]),
    (sKeySet (eVar 29) 39 (eLst [])),
    (sRet (eAnd (eOp1 dNot (eAttr (eVar 28) 40)) (eOp2 (dB qEq) (eAttr (eVar 28) 35) (eTup []))))]
noncomputable def f_law_taken_back : PF := fFun [28, 29, 23] bf_law_taken_back
noncomputable def bf_law_deed : List PS := [
    (sAssignTup [32, 16] [(eCall f_law_draw [(eVar 22), (eD (.int 8))]), (eAttr (eVar 28) 16)]),
    (sIf (tOp2 qEq (eVar 32) (eD (.int 5))) [(sRet (eTup [(eCall f_law_begun [(eVar 28), (eVar 29)]), (eD .none)]))] []),
    (sIf (tOp2 qEq (eVar 32) (eD (.int 6))) [(sRet (eTup [(eCall f_law_taken_back [(eVar 28), (eVar 29), (eOp2 dAdd (eD (.int 1)) (eCall f_law_draw [(eVar 22), (eOp1 dLen (eKey (eVar 29) 38))]))]), (eD .none)]))] []),
    (sAssign 9 (eCall f_law_literal [(eVar 22), (eVar 23)])),
    (sIf (tOp2 qEq (eVar 32) (eD (.int 3))) [(sRet (eTup [(eMeth m_decide (eVar 28) [(eVar 9)]), (eCall f_law_struck [(eVar 29), (eVar 9), (eD .none), (eOp1 dNeg (eD (.int 1)))])]))] []),
    (sAssign 15 (eComp (.one 31) (iRange1 (eCall f_law_draw [(eVar 22), (eD (.int 3))])) [] (eCall f_law_literal [(eVar 22), (eVar 23)]))),
    (sIf (tOp2 qEq (eVar 32) (eD (.int 7))) [(sRet (eTup [(eMeth m_fail (eVar 28) [(eVar 15)]), (eOp1 dTuple (eVar 15))]))] []),
    (sRet (eTup [(eMeth m_strike (eVar 28) [(eVar 9), (eVar 15)]), (eCall f_law_struck [(eVar 29), (eVar 9), (eOp1 dTuple (eVar 15)), (eVar 16)])]))]
noncomputable def f_law_deed : PF := fFun [22, 28, 29, 23] bf_law_deed
noncomputable def bf_law : List PS := [
    (sAssign 22 (eDict [41, 42, 43] [(eOp2 dTake (eVar 33) (eD (.int 48))), (eD (.int 0)), (eOp1 dSum (eComp (.one 44) (iVal (eOp2 dTake (eVar 33) (eD (.int 48)))) [] (eOp2 dMod (eOp1 dAbs (eVar 44)) (eD (.int 97)))))])),
    (sAssignTup [28, 23] [(eNew m__init__), (eOp2 dAdd (eD (.int 2)) (eCall f_law_draw [(eVar 22), (eD (.int 2))]))]),
    (sAssign 30 (eComp (.one 31) (iRange1 (eVar 23)) [] (eCall f_law_numbers [(eVar 22)]))),
    (sIf (tOp2 qNe (eComp (.one 24) (iVal (eVar 30)) [] (eMeth m_new_var (eVar 28) [(eCall f_law_ranges [(eVar 24)])])) (eListRange (eVar 23))) [(sRet (eD (.bool false)))] []),
    (sAssign 29 (eDict [27, 37, 38, 39] [(eVar 30), (eLst []), eNewList, (eLst [])])),
    (sFor (.one 31) (iRange1 (eD (.int 9))) [(sAttrSet (eVar 28) 16 (eVar 31)),
    (sIf (tAnd (tOp2 qEq (eKey (eVar 29) 38) (eLst [])) (tNot (tVal (eCall f_law_begun [(eVar 28), (eVar 29)])))) [(sRet (eD (.bool false)))] []),
    (sUnpack [34, 35] (eCall f_law_deed [(eVar 22), (eVar 28), (eVar 29), (eVar 23)])),
    (sIf (tOr (tNot (tVal (eOp1 dIsBool (eVar 34)))) (tOr (tOp2 qNe (eVar 34) (eOp2 (dB qIsNone) (eVar 35) (eD .none))) (tOp2 qEq (eAttr (eVar 28) 40) (eVar 34)))) [(sRet (eD (.bool false)))] []),
    (sIf (tAnd (tOp2 qIsNotNone (eVar 35) (eD .none)) (tOr (tOp2 qNe (eAttr (eVar 28) 35) (eVar 35)) (tNot (tVal (eCall f_law_taken_back [(eVar 28), (eVar 29), (eD (.int 1))]))))) [(sRet (eD (.bool false)))] []),
    (sIf (tNot (tVal (eCall f_law_is_seen [(eVar 28), (eVar 29), (eVar 30)]))) [(sRet (eD (.bool false)))] []),
    (sIf (tOp2 qEq (eCall f_law_draw [(eVar 22), (eD (.int 3))]) (eD (.int 0))) [(sIf (tOp2 qNe (eMeth m_changed (eVar 28) []) (eKey (eVar 29) 39)) [(sRet (eD (.bool false)))] []),
    (sKeySet (eVar 29) 39 (eLst []))] [])]),
    (sIf (tAnd (tOp2 qNe (eKey (eVar 29) 38) (eLst [])) (tNot (tVal (eCall f_law_taken_back [(eVar 28), (eVar 29), (eOp1 dLen (eKey (eVar 29) 38))])))) [(sRet (eD (.bool false)))] []),
    (sRet (eAnd (eCall f_law_is_seen [(eVar 28), (eVar 29), (eVar 30)]) (eOp2 (dB qEq) (eMeth m_changed (eVar 28) []) (eKey (eVar 29) 39))))]
noncomputable def f_law : PF := fFun [33] bf_law
end Mine
end
section
namespace Mine.Pure
open PySem
noncomputable def pr (p : Int × Int) : PyData := .tuple [.int p.1, .int p.2]
noncomputable def dom (D : List (Int × Int)) : PyData := .tuple (D.map pr)
noncomputable def ilist (l : List Int) : PyData := .list (l.map .int)
inductive Sg where
  | le | ge | eq | ne
noncomputable def Sg.is : Sg → Sg → Bool
  | .le, .le => true
  | .ge, .ge => true
  | .eq, .eq => true
  | .ne, .ne => true
  | _, _ => false
noncomputable def Sg.str : Sg → Str
  | .le => "<=" | .ge => ">=" | .eq => "=" | .ne => "!="
noncomputable def litD (x : Int) (s : Sg) (k : Int) : PyData := .tuple [.int x, .str s.str, .int k]
noncomputable def nextM : List (Int × Int) → Int → Option Int
  | [], _ => none
  | p :: r, v => if v ≤ p.2 then some (max p.1 v) else nextM r v
noncomputable def upM (D : List (Int × Int)) (k : Int) : List (Int × Int) := (D.filter fun p => decide (p.1 ≤ k)).map fun p => (p.1, min p.2 k)
noncomputable def fromM (D : List (Int × Int)) (k : Int) : List (Int × Int) := (D.filter fun p => decide (k ≤ p.2)).map fun p => (max p.1 k, p.2)
noncomputable def withoutM (D : List (Int × Int)) (v : Int) : List (Int × Int) := upM D (v - 1) ++ fromM D (v + 1)
noncomputable def meetM : List (Int × Int) → Int → List (Int × Int)
  | [], _ => []
  | p :: r, k => (if max p.1 k ≤ min p.2 k then [(max p.1 k, min p.2 k)] else []) ++ (if p.2 < k then meetM r k else [])
noncomputable def struckM (s : Sg) (k : Int) (D : List (Int × Int)) : List (Int × Int) := match s with
  | .le => upM D k | .ge => fromM D k | .eq => meetM D k | .ne => withoutM D k
noncomputable def keepsM (s : Sg) (k v : Int) : Bool := match s with
  | .le => decide (v ≤ k) | .ge => decide (k ≤ v) | .eq => decide (v = k) | .ne => decide (v ≠ k)
noncomputable def rangeStep (found : List (Int × Int)) (v : Int) : List (Int × Int) := match found.getLast? with
  | some q => if q.2 + 1 = v then found.dropLast ++ [(q.1, v)] else found ++ [(v, v)]
  | none => [(v, v)]
noncomputable def rangesM (l : List Int) : List (Int × Int) := l.foldl rangeStep []
theorem eqv_int (a b : Int) : PyData.eqv (.int a) (.int b) = (a == b) := by simp [PyData.eqv]
theorem eqv_pr (p q : Int × Int) : PyData.eqv (pr p) (pr q) = (p == q) := by
  obtain ⟨a, b⟩ := p; obtain ⟨c, d⟩ := q
  simp [pr, PyData.eqv, PyData.eqvAll]
  rfl
theorem eqvAll_pr : ∀ D E : List (Int × Int), PyData.eqvAll (D.map pr) (E.map pr) = (D == E)
  | [], [] => by simp [PyData.eqvAll]
  | [], _ :: _ => by simp [PyData.eqvAll]
  | _ :: _, [] => by simp [PyData.eqvAll]
  | p :: D, q :: E => by
    rw [List.map_cons, List.map_cons, PyData.eqvAll, eqv_pr, eqvAll_pr D E]; rfl
theorem eqv_dom (D E : List (Int × Int)) : PyData.eqv (dom D) (dom E) = (D == E) := by
  unfold dom; rw [PyData.eqv, eqvAll_pr]
theorem eqvAll_ints : ∀ l m : List Int, PyData.eqvAll (l.map .int) (m.map .int) = (l == m)
  | [], [] => by simp [PyData.eqvAll]
  | [], _ :: _ => by simp [PyData.eqvAll]
  | _ :: _, [] => by simp [PyData.eqvAll]
  | a :: l, b :: m => by
    rw [List.map_cons, List.map_cons, PyData.eqvAll, eqv_int, eqvAll_ints l m]; rfl
theorem eqv_ilist (l m : List Int) : PyData.eqv (ilist l) (ilist m) = (l == m) := by
  unfold ilist; rw [PyData.eqv, eqvAll_ints]
theorem lay_ints : ∀ l : List Int, PyData.canLayAll0 (l.map .int) = true
  | [] => rfl
  | a :: l => by simp [PyData.canLayAll0, PyData.canLay0, lay_ints l]
theorem lay_prs : ∀ D : List (Int × Int), PyData.canLayAll0 (D.map pr) = true
  | [] => rfl
  | a :: l => by simp [PyData.canLayAll0, PyData.canLay0, pr, lay_prs l]
end Mine.Pure
end
section
namespace Mine.Pure
open PySem
theorem run_ret {ps : List Nat} {body : List PS} {args : List PV} {vs vs' : Vars} {st st' : St} {v : PV} (h1 : bindP ps args = some vs) (h2 : sSeq body vs st = some (.ret v, vs', st')) : fFun ps body args st = some (v, st') := by
  unfold fFun; rw [h1, Option.bind_some, h2]; rfl
theorem run_next {ps : List Nat} {body : List PS} {args : List PV} {vs vs' : Vars} {st st' : St} (h1 : bindP ps args = some vs) (h2 : sSeq body vs st = some (.next, vs', st')) : fFun ps body args st = some (.d .none, st') := by
  unfold fFun; rw [h1, Option.bind_some, h2]; rfl
theorem q_nil {vs : Vars} {st : St} : sSeq [] vs st = some (.next, vs, st) := rfl
theorem q_ret {e : PE} {r : List PS} {vs : Vars} {st st' : St} {v : PV} (h : e vs st = some (v, st')) : sSeq (sRet e :: r) vs st = some (.ret v, vs, st') := by
  unfold sSeq sRet; rw [h]; rfl
theorem q_step {p : PS} {r : List PS} {vs vs1 : Vars} {st st1 : St} {res : Option (PFlow × Vars × St)} (h : p vs st = some (.next, vs1, st1)) (h2 : sSeq r vs1 st1 = res) : sSeq (p :: r) vs st = res := by
  rw [sSeq, h, Option.bind_some]; exact h2
theorem q_stop {p : PS} {r : List PS} {vs vs1 : Vars} {st st1 : St} {v : PV} (h : p vs st = some (.ret v, vs1, st1)) : sSeq (p :: r) vs st = some (.ret v, vs1, st1) := by
  rw [sSeq, h]; rfl
theorem q_assign {k : Nat} {e : PE} {r : List PS} {vs : Vars} {st st1 : St} {v : PV} {res : Option (PFlow × Vars × St)} (h : e vs st = some (v, st1)) (h2 : sSeq r (upd vs k v) st1 = res) : sSeq (sAssign k e :: r) vs st = res :=
  q_step (by unfold sAssign; rw [h]; rfl) h2
theorem q_expr {e : PE} {r : List PS} {vs : Vars} {st st1 : St} {v : PV} {res : Option (PFlow × Vars × St)} (h : e vs st = some (v, st1)) (h2 : sSeq r vs st1 = res) : sSeq (sExpr e :: r) vs st = res :=
  q_step (by unfold sExpr; rw [h]; rfl) h2
theorem if_true {t : PT} {a b : List PS} {vs : Vars} {st st1 : St} {res : Option (PFlow × Vars × St)} (h : t vs st = some (true, st1)) (h2 : sSeq a vs st1 = res) : sIf t a b vs st = res := by
  unfold sIf; rw [h, Option.bind_some, if_pos rfl]; exact h2
theorem if_false {t : PT} {a b : List PS} {vs : Vars} {st st1 : St} {res : Option (PFlow × Vars × St)} (h : t vs st = some (false, st1)) (h2 : sSeq b vs st1 = res) : sIf t a b vs st = res := by
  unfold sIf; rw [h, Option.bind_some, if_neg (by simp)]; exact h2
theorem q_skip {t : PT} {a : List PS} {r : List PS} {vs : Vars} {st st1 : St} {res : Option (PFlow × Vars × St)} (h : t vs st = some (false, st1)) (h2 : sSeq r vs st1 = res) : sSeq (sIf t a [] :: r) vs st = res :=
  q_step (if_false h rfl) h2
theorem op1_of {f : PyData → Option PyData} {a : PE} {vs : Vars} {st st1 : St} {p : PV} {x y : PyData} (h : a vs st = some (p, st1)) (hr : rd st1 p = some x) (hf : f x = some y) : eOp1 f a vs st = some (.d y, st1) := by
  unfold eOp1; rw [h, Option.bind_some]; dsimp only; rw [hr, Option.bind_some, hf]; rfl
theorem op2_of {f : PyData → PyData → Option PyData} {a b : PE} {vs : Vars} {st st1 st2 : St} {p q : PV} {x y z : PyData} (h : a vs st = some (p, st1)) (h2 : b vs st1 = some (q, st2)) (hr : rd st2 p = some x) (hq : rd st2 q = some y) (hf : f x y = some z) : eOp2 f a b vs st = some (.d z, st2) := by
  unfold eOp2; rw [h, Option.bind_some]; dsimp only; rw [h2, Option.bind_some]; dsimp only; rw [hr, Option.bind_some, hq, Option.bind_some, hf]; rfl
theorem t2_of {f : PyData → PyData → Option Bool} {a b : PE} {vs : Vars} {st st1 st2 : St} {p q : PV} {x y : PyData} {z : Bool} (h : a vs st = some (p, st1)) (h2 : b vs st1 = some (q, st2)) (hr : rd st2 p = some x) (hq : rd st2 q = some y) (hf : f x y = some z) : tOp2 f a b vs st = some (z, st2) := by
  unfold tOp2; rw [h, Option.bind_some]; dsimp only; rw [h2, Option.bind_some]; dsimp only; rw [hr, Option.bind_some, hq, Option.bind_some, hf]; rfl
theorem tval_of {a : PE} {vs : Vars} {st st1 : St} {b : Bool} (h : a vs st = some (.d (.bool b), st1)) : tVal a vs st = some (b, st1) := by
  unfold tVal; rw [h]; rfl
theorem tnot_of {a : PT} {vs : Vars} {st st1 : St} {b : Bool} (h : a vs st = some (b, st1)) : tNot a vs st = some (!b, st1) := by
  unfold tNot; rw [h]; rfl
theorem tor_of {a b : PT} {vs : Vars} {st st1 st2 : St} {x y : Bool} (h : a vs st = some (x, st1)) (h2 : x = false → b vs st1 = some (y, st2)) (h3 : x = true → st2 = st1) : tOr a b vs st = some (x || y, st2) := by
  unfold tOr; rw [h, Option.bind_some]
  cases x with
  | true => rw [if_pos rfl, h3 rfl]; rfl
  | false => rw [if_neg (by simp), h2 rfl]; rfl
theorem tand_of {a b : PT} {vs : Vars} {st st1 st2 : St} {x y : Bool} (h : a vs st = some (x, st1)) (h2 : x = true → b vs st1 = some (y, st2)) (h3 : x = false → st2 = st1) : tAnd a b vs st = some (x && y, st2) := by
  unfold tAnd; rw [h, Option.bind_some]
  cases x with
  | true => rw [if_pos rfl, h2 rfl]; rfl
  | false => rw [if_neg (by simp), h3 rfl]; rfl
theorem eif_true {t : PT} {a b : PE} {vs : Vars} {st st1 : St} {res : Option (PV × St)} (h : t vs st = some (true, st1)) (h2 : a vs st1 = res) : eIf t a b vs st = res := by
  unfold eIf; rw [h, Option.bind_some, if_pos rfl]; exact h2
theorem eif_false {t : PT} {a b : PE} {vs : Vars} {st st1 : St} {res : Option (PV × St)} (h : t vs st = some (false, st1)) (h2 : b vs st1 = res) : eIf t a b vs st = res := by
  unfold eIf; rw [h, Option.bind_some, if_neg (by simp)]; exact h2
theorem var_of {vs : Vars} {k : Nat} {v : PV} {st : St} (h : vs k = some v) : eVar k vs st = some (v, st) := by unfold eVar; rw [h]; rfl
theorem seq_nil {vs : Vars} {st : St} : eSeq [] vs st = some ([], st) := rfl
theorem seq_cons {e : PE} {es : List PE} {vs : Vars} {st st1 st2 : St} {v : PV} {ps : List PV} (h : e vs st = some (v, st1)) (h2 : eSeq es vs st1 = some (ps, st2)) : eSeq (e :: es) vs st = some (v :: ps, st2) := by
  unfold eSeq; rw [h, Option.bind_some]; dsimp only; rw [h2]; rfl
theorem call_of {f : PF} {es : List PE} {vs : Vars} {st st1 : St} {ps : List PV} {res : Option (PV × St)} (h : eSeq es vs st = some (ps, st1)) (h2 : f ps st1 = res) : eCall f es vs st = res := by
  unfold eCall; rw [h, Option.bind_some]; exact h2
theorem tup_of {es : List PE} {vs : Vars} {st st1 : St} {ps : List PV} {xs : List PyData} (h : eSeq es vs st = some (ps, st1)) (h2 : datas ps = some xs) : eTup es vs st = some (.d (.tuple xs), st1) := by
  unfold eTup; rw [h, Option.bind_some]; dsimp only; rw [h2]; rfl
theorem lst_of {es : List PE} {vs : Vars} {st st1 : St} {ps : List PV} {xs : List PyData} (h : eSeq es vs st = some (ps, st1)) (h2 : datas ps = some xs) : eLst es vs st = some (.d (.list xs), st1) := by
  unfold eLst; rw [h, Option.bind_some]; dsimp only; rw [h2]; rfl
theorem szOk_of {k : Nat} (h : k ≤ 1000000) : szOk k = true := decide_eq_true h
theorem idx_nat {n k : Nat} (h : k < n) : idx n (k : Int) = some k := by
  unfold idx; rw [if_pos (by omega), if_pos (by simpa using h)]; simp
theorem idx_neg1 {n : Nat} (h : 0 < n) : idx n (-1) = some (n - 1) := by
  unfold idx; rw [if_neg (by omega), if_pos (by simp; omega)]; simp
theorem small_of {i : Int} (h : -1000000 ≤ i) (h' : i ≤ 1000000) : small i = true := by
  unfold small; simp only [Bool.and_eq_true, decide_eq_true_eq]; omega
theorem item_list {xs : List PyData} {k : Nat} {x : PyData} (h : xs[k]? = some x) (hl : xs.length ≤ 1000000) : dItem (.list xs) (.int (k : Int)) = some x := by
  have hk := (List.getElem?_eq_some_iff.mp h).1
  dsimp only [dItem]
  rw [if_pos (by rw [szOk_of hl, small_of (by omega) (by omega)]; rfl), idx_nat hk]; exact h
theorem item_tuple {xs : List PyData} {k : Nat} {x : PyData} (h : xs[k]? = some x) (hl : xs.length ≤ 1000000) : dItem (.tuple xs) (.int (k : Int)) = some x := by
  have hk := (List.getElem?_eq_some_iff.mp h).1
  dsimp only [dItem]
  rw [if_pos (by rw [szOk_of hl, small_of (by omega) (by omega)]; rfl), idx_nat hk]; exact h
theorem item_list_last {xs : List PyData} {x : PyData} (h : xs.getLast? = some x) (hl : xs.length ≤ 1000000) : dItem (.list xs) (.int (-1)) = some x := by
  have hne : xs ≠ [] := fun z => by subst z; cases h
  dsimp only [dItem]
  rw [if_pos (by rw [szOk_of hl]; rfl), idx_neg1 (List.length_pos_iff.mpr hne)]
  rw [List.getLast?_eq_getElem?] at h; exact h
theorem item_tuple_last {xs : List PyData} {x : PyData} (h : xs.getLast? = some x) (hl : xs.length ≤ 1000000) : dItem (.tuple xs) (.int (-1)) = some x := by
  have hne : xs ≠ [] := fun z => by subst z; cases h
  dsimp only [dItem]
  rw [if_pos (by rw [szOk_of hl]; rfl), idx_neg1 (List.length_pos_iff.mpr hne)]
  rw [List.getLast?_eq_getElem?] at h; exact h
theorem item_lo (p : Int × Int) : dItem (pr p) (.int 0) = some (.int p.1) := item_tuple (k := 0) rfl (by simp)
theorem item_hi (p : Int × Int) : dItem (pr p) (.int 1) = some (.int p.2) := item_tuple (k := 1) rfl (by simp)
theorem item_dom {D : List (Int × Int)} {k : Nat} {p : Int × Int} (h : D[k]? = some p) (hl : D.length ≤ 100) : dItem (dom D) (.int (k : Int)) = some (pr p) := item_tuple (by rw [List.getElem?_map, h]; rfl) (by simp; omega)
theorem item_dom0 {p : Int × Int} {D : List (Int × Int)} (hl : (p :: D).length ≤ 100) : dItem (dom (p :: D)) (.int 0) = some (pr p) := item_dom (k := 0) rfl hl
theorem least_eq {p : Int × Int} {D : List (Int × Int)} (hl : (p :: D).length ≤ 100) (st : St) : f_least [.d (dom (p :: D))] st = some (.d (.int p.1), st) :=
  run_ret rfl (q_ret (op2_of (op2_of (var_of rfl) rfl rfl rfl (item_dom0 hl)) rfl rfl rfl (item_lo p)))
theorem greatest_eq {q : Int × Int} {D : List (Int × Int)} (h : D.getLast? = some q) (hl : D.length ≤ 100) (st : St) : f_greatest [.d (dom D)] st = some (.d (.int q.2), st) :=
  run_ret rfl (q_ret (op2_of (op2_of (var_of rfl) (op1_of rfl rfl rfl) rfl rfl (item_tuple_last (x := pr q) (by rw [List.getLast?_map, h]; rfl) (by simp; omega))) rfl rfl rfl (item_hi q)))
theorem comp_pure {α : Type} {t : Tgt} {ifs : List PT} {elt : PE} {vs : Vars} {st : St} {g : α → PyData} {p : α → Bool} {f : α → PyData} : ∀ {xs : List α},
    (∀ x ∈ xs, ∃ vs1, t.put vs (g x) = some vs1 ∧ tIfs ifs vs1 st = some (p x, st) ∧ (p x = true → elt vs1 st = some (.d (f x), st))) → compL t ifs elt (xs.map g) vs st = some ((xs.filter p).map f, st)
  | [], _ => rfl
  | x :: xs, h => by
    obtain ⟨vs1, h1, h2, h3⟩ := h x List.mem_cons_self
    have ih := comp_pure (xs := xs) fun y hy => h y (List.mem_cons_of_mem _ hy)
    rw [List.map_cons, compL, h1, Option.bind_some, h2, Option.bind_some]
    dsimp only
    cases hp : p x with
    | false => rw [if_neg (by simp), ih, List.filter_cons, hp]; rfl
    | true => rw [if_pos rfl, h3 hp, Option.bind_some]; dsimp only [PV.data]; rw [Option.bind_some, ih, List.filter_cons, hp]; rfl
theorem iVal_tuple {e : PE} {vs : Vars} {st st' : St} {xs : List PyData} (h : e vs st = some (.d (.tuple xs), st')) (hl : xs.length ≤ 1000000) : iVal e vs st = some (xs, st') := by
  unfold iVal; rw [h, Option.bind_some]; dsimp only; rw [if_pos (szOk_of hl)]
theorem iVal_list {e : PE} {vs : Vars} {st st' : St} {xs : List PyData} (h : e vs st = some (.d (.list xs), st')) (hl : xs.length ≤ 1000000) : iVal e vs st = some (xs, st') := by
  unfold iVal; rw [h, Option.bind_some]; dsimp only; rw [if_pos (szOk_of hl)]
theorem comp_of {t : Tgt} {it : PI} {ifs : List PT} {elt : PE} {vs : Vars} {st st1 st2 : St} {xs ys : List PyData} (h : it vs st = some (xs, st1)) (h2 : compL t ifs elt xs vs st1 = some (ys, st2)) : eComp t it ifs elt vs st = some (.d (.list ys), st2) := by
  unfold eComp; rw [h, Option.bind_some]; dsimp only; rw [h2]; rfl
theorem ints_map (l : List Int) : ints? (l.map .int) = some l := by
  induction l with
  | nil => rfl
  | cons a l ih => rw [List.map_cons, ints?, ih]; rfl
theorem filter_true {α : Type} (l : List α) : l.filter (fun _ => true) = l := List.filter_eq_self.mpr (by simp)
theorem ifs_nil {vs : Vars} {st : St} : tIfs [] vs st = some (true, st) := rfl
theorem ifs_one {t : PT} {vs : Vars} {st st1 : St} {b : Bool} (h : t vs st = some (b, st1)) : tIfs [t] vs st = some (b, st1) := by
  unfold tIfs; rw [h, Option.bind_some]; cases b <;> rfl
theorem size_eq {D : List (Int × Int)} (hl : D.length ≤ 100) (st : St) : f_size [.d (dom D)] st = some (.d (.int (D.map fun p => p.2 - p.1 + 1).sum), st) := by
  refine run_ret rfl (q_ret (op1_of (comp_of (iVal_tuple (xs := D.map pr) (var_of rfl) (by simp; omega)) (comp_pure (p := fun _ => true) (f := fun p => .int (p.2 - p.1 + 1)) fun p hp => ⟨_, rfl, ifs_nil, fun _ => ?_⟩)) rfl ?_))
  · exact op2_of (op2_of (var_of rfl) (var_of rfl) rfl rfl rfl) rfl rfl rfl rfl
  · rw [filter_true]
    have := ints_map (D.map fun p => p.2 - p.1 + 1)
    rw [List.map_map] at this
    unfold dSum
    show (ints? (D.map fun p => PyData.int (p.2 - p.1 + 1))).map _ = _
    rw [show (D.map fun p => PyData.int (p.2 - p.1 + 1)) = D.map (PyData.int ∘ fun p => p.2 - p.1 + 1) from rfl, this]; rfl
theorem up_eq {D : List (Int × Int)} {k : Int} (hl : D.length ≤ 100) (st : St) : f_up_to [.d (dom D), .d (.int k)] st = some (.d (dom (upM D k)), st) := by
  refine run_ret rfl (q_ret (op1_of (comp_of (iVal_tuple (xs := D.map pr) (var_of rfl) (by simp; omega)) (comp_pure (p := fun p => decide (p.1 ≤ k)) (f := fun p => pr (p.1, min p.2 k)) fun p hp => ⟨_, rfl, ifs_one (t2_of (var_of rfl) (var_of rfl) rfl rfl rfl), fun _ => ?_⟩)) rfl ?_))
  · exact tup_of (seq_cons (var_of rfl) (seq_cons (op2_of (var_of rfl) (var_of rfl) rfl rfl rfl) seq_nil)) rfl
  · have h : ((D.filter fun p => decide (p.1 ≤ k)).map fun p => pr (p.1, min p.2 k)).length ≤ 1000000 := by
      rw [List.length_map]; exact Nat.le_trans (List.length_filter_le _ _) (by omega)
    dsimp only [dTuple]
    rw [if_pos (szOk_of h)]
    unfold dom upM
    rw [List.map_map]; rfl
theorem from_eq {D : List (Int × Int)} {k : Int} (hl : D.length ≤ 100) (st : St) : f_from_on [.d (dom D), .d (.int k)] st = some (.d (dom (fromM D k)), st) := by
  refine run_ret rfl (q_ret (op1_of (comp_of (iVal_tuple (xs := D.map pr) (var_of rfl) (by simp; omega)) (comp_pure (p := fun p => decide (k ≤ p.2)) (f := fun p => pr (max p.1 k, p.2)) fun p hp => ⟨_, rfl, ifs_one (t2_of (var_of rfl) (var_of rfl) rfl rfl rfl), fun _ => ?_⟩)) rfl ?_))
  · exact tup_of (seq_cons (op2_of (var_of rfl) (var_of rfl) rfl rfl rfl) (seq_cons (var_of rfl) seq_nil)) rfl
  · have h : ((D.filter fun p => decide (k ≤ p.2)).map fun p => pr (max p.1 k, p.2)).length ≤ 1000000 := by
      rw [List.length_map]; exact Nat.le_trans (List.length_filter_le _ _) (by omega)
    dsimp only [dTuple]
    rw [if_pos (szOk_of h)]
    unfold dom fromM
    rw [List.map_map]; rfl
theorem upM_len (D : List (Int × Int)) (k : Int) : (upM D k).length ≤ D.length := by unfold upM; rw [List.length_map]; exact List.length_filter_le _ _
theorem fromM_len (D : List (Int × Int)) (k : Int) : (fromM D k).length ≤ D.length := by unfold fromM; rw [List.length_map]; exact List.length_filter_le _ _
theorem without_eq {D : List (Int × Int)} {v : Int} (hl : D.length ≤ 100) (st : St) : f_without [.d (dom D), .d (.int v)] st = some (.d (dom (withoutM D v)), st) := by
  have h1 := upM_len D (v - 1)
  have h2 := fromM_len D (v + 1)
  refine run_ret rfl (q_ret (op2_of (call_of (seq_cons (var_of rfl) (seq_cons (op2_of (var_of rfl) rfl rfl rfl rfl) seq_nil)) (up_eq hl st)) (call_of (seq_cons (var_of rfl) (seq_cons (op2_of (var_of rfl) rfl rfl rfl rfl) seq_nil)) (from_eq hl st)) rfl rfl ?_))
  dsimp only [dAdd, dom]
  rw [if_pos (szOk_of (by rw [List.length_map, List.length_map]; omega))]
  unfold withoutM
  rw [List.map_append]
end Mine.Pure
end
section
namespace Mine.Pure
open PySem
theorem forL_nil {t : Tgt} {b : PS} {vs : Vars} {st : St} : forL t b [] vs st = some (.next, vs, st) := rfl
theorem forL_step {t : Tgt} {b : PS} {x : PyData} {xs : List PyData} {vs vs1 vs2 : Vars} {st st2 : St} {res : Option (PFlow × Vars × St)} (h1 : t.put vs x = some vs1) (h2 : b vs1 st = some (.next, vs2, st2)) (h3 : forL t b xs vs2 st2 = res) : forL t b (x :: xs) vs st = res := by
  rw [forL, h1, Option.bind_some, h2, Option.bind_some]; exact h3
theorem forL_stop {t : Tgt} {b : PS} {x : PyData} {xs : List PyData} {vs vs1 vs2 : Vars} {st st2 : St} {v : PV} (h1 : t.put vs x = some vs1) (h2 : b vs1 st = some (.ret v, vs2, st2)) : forL t b (x :: xs) vs st = some (.ret v, vs2, st2) := by
  rw [forL, h1, Option.bind_some, h2]; rfl
theorem for_of {t : Tgt} {it : PI} {b : List PS} {vs : Vars} {st st1 : St} {xs : List PyData} {res : Option (PFlow × Vars × St)} (h : it vs st = some (xs, st1)) (h2 : forL t (sSeq b) xs vs st1 = res) : sFor t it b vs st = res := by
  unfold sFor; rw [h, Option.bind_some]; exact h2
theorem qEq_of {x y : PyData} (h1 : x.canLay0 = true) (h2 : y.canLay0 = true) (h3 : x.depth ≤ 50) : qEq x y = some (PyData.eqv x y) := by
  unfold qEq eqOk; rw [h1, h2, if_pos (by simpa using h3)]
theorem qNe_of {x y : PyData} (h1 : x.canLay0 = true) (h2 : y.canLay0 = true) (h3 : x.depth ≤ 50) : qNe x y = some (!PyData.eqv x y) := by
  unfold qNe eqOk; rw [h1, h2, if_pos (by simpa using h3)]
noncomputable def optD (o : Option Int) : PyData := match o with
  | some r => .int r
  | none => .none
theorem next_loop {v : Int} : ∀ (D : List (Int × Int)) (vs : Vars) (st : St), vs 1 = some (.d (.int v)) → ∃ vs', forL (.two 2 3) (sSeq [sIf (tOp2 qLe (eVar 1) (eVar 3)) [sRet (eOp2 dMax (eVar 2) (eVar 1))] []]) (D.map pr) vs st = some (match nextM D v with | some r => .ret (.d (.int r)) | none => .next, vs', st)
  | [], vs, st, _ => ⟨vs, rfl⟩
  | p :: D, vs, st, hv => by
    rw [List.map_cons]
    unfold nextM
    have hv1 : upd (upd vs 2 (.d (.int p.1))) 3 (.d (.int p.2)) 1 = some (.d (.int v)) := by simp [upd, hv]
    by_cases h : v ≤ p.2
    · rw [if_pos h]
      exact ⟨_, forL_stop rfl (q_stop (if_true (t2_of (var_of hv1) (var_of rfl) rfl rfl (by simp [qLe, h])) (q_ret (op2_of (var_of rfl) (var_of hv1) rfl rfl rfl))))⟩
    · rw [if_neg h]
      obtain ⟨vs', e⟩ := next_loop D (upd (upd vs 2 (.d (.int p.1))) 3 (.d (.int p.2))) st hv1
      exact ⟨vs', forL_step rfl (q_skip (t2_of (var_of hv1) (var_of rfl) rfl rfl (by simp [qLe, h])) rfl) e⟩
theorem next_eq {D : List (Int × Int)} {v : Int} (hl : D.length ≤ 100) (st : St) : f_next_from [.d (dom D), .d (.int v)] st = some (.d (optD (nextM D v)), st) := by
  obtain ⟨vs', e⟩ := next_loop (v := v) D (upd (upd (fun _ => none) 1 (.d (.int v))) 0 (.d (dom D))) st rfl
  have e2 : sFor (.two 2 3) (iVal (eVar 0)) [sIf (tOp2 qLe (eVar 1) (eVar 3)) [sRet (eOp2 dMax (eVar 2) (eVar 1))] []] (upd (upd (fun _ => none) 1 (.d (.int v))) 0 (.d (dom D))) st = some (match nextM D v with | some r => .ret (.d (.int r)) | none => .next, vs', st) := for_of (iVal_tuple (xs := D.map pr) (var_of rfl) (by simp; omega)) e
  cases h : nextM D v with
  | none => rw [h] at e2; exact run_ret rfl (q_step e2 (q_ret rfl))
  | some r => rw [h] at e2; exact run_ret rfl (q_stop e2)
theorem has_eq {D : List (Int × Int)} {v : Int} (hl : D.length ≤ 100) (st : St) : f_has [.d (dom D), .d (.int v)] st = some (.d (.bool (nextM D v == some v)), st) := by
  refine run_ret rfl (q_ret (op2_of (call_of (seq_cons (var_of rfl) (seq_cons (var_of rfl) seq_nil)) (next_eq hl st)) (var_of rfl) rfl rfl ?_))
  unfold dB
  cases h : nextM D v with
  | none => rfl
  | some r =>
    show (qEq (.int r) (.int v)).map _ = _
    rw [qEq_of rfl rfl (by simp [PyData.depth]), eqv_int]
    simp
theorem last_get (st : St) (o : PObj) : (st ++ [o])[st.length]? = some o := by simp
theorem last_set (st : St) (o o' : PObj) : (st ++ [o]).set st.length o' = st ++ [o'] := by simp
theorem last_rd (st : St) (xs : List PyData) : rd (st ++ [.list xs]) (.ref st.length) = some (.list xs) := by dsimp only [rd]; rw [last_get]
theorem append_of {o e : PE} {vs : Vars} {st st1 : St} {i : Nat} {xs : List PyData} {y : PyData} (h : o vs st = some (.ref i, st)) (h2 : e vs st = some (.d y, st1)) (h3 : st[i]? = some (.list xs)) (h4 : st1[i]? = some (.list xs)) (hl : xs.length ≤ 1000000) : eAppend o e vs st = some (.d .none, st1.set i (.list (xs ++ [y]))) := by
  unfold eAppend
  rw [h, Option.bind_some]
  dsimp only
  rw [if_pos (by unfold isList; rw [h3]), h2, Option.bind_some]
  dsimp only
  rw [h4]
  dsimp only
  rw [if_pos (szOk_of hl)]
theorem tup2_of {a b : PE} {vs : Vars} {st st1 st2 : St} {x y : PyData} (h : a vs st = some (.d x, st1)) (h2 : b vs st1 = some (.d y, st2)) : eTup [a, b] vs st = some (.d (.tuple [x, y]), st2) := tup_of (seq_cons h (seq_cons h2 seq_nil)) rfl
theorem len_list {xs : List PyData} (hl : xs.length ≤ 1000000) : dLen (.list xs) = some (.int xs.length) := by dsimp only [dLen]; rw [if_pos (szOk_of hl)]
theorem len_tuple {xs : List PyData} (hl : xs.length ≤ 1000000) : dLen (.tuple xs) = some (.int xs.length) := by dsimp only [dLen]; rw [if_pos (szOk_of hl)]
noncomputable def meetT : PT := tAnd (tOp2 qLt (eVar 7) (eOp1 dLen (eVar 0))) (tOp2 qLt (eVar 8) (eOp1 dLen (eVar 5)))
noncomputable def meetB : List PS := [sAssignTup [2, 3] [eOp2 dMax (eOp2 dItem (eOp2 dItem (eVar 0) (eVar 7)) (eD (.int 0))) (eOp2 dItem (eOp2 dItem (eVar 5) (eVar 8)) (eD (.int 0))), eOp2 dMin (eOp2 dItem (eOp2 dItem (eVar 0) (eVar 7)) (eD (.int 1))) (eOp2 dItem (eOp2 dItem (eVar 5) (eVar 8)) (eD (.int 1)))],
    sIf (tOp2 qLe (eVar 2) (eVar 3)) [sExpr (eAppend (eVar 6) (eTup [eVar 2, eVar 3]))] [],
    sIf (tOp2 qLt (eOp2 dItem (eOp2 dItem (eVar 0) (eVar 7)) (eD (.int 1))) (eOp2 dItem (eOp2 dItem (eVar 5) (eVar 8)) (eD (.int 1)))) [sAssign 7 (eOp2 dAdd (eVar 7) (eD (.int 1)))] [sAssign 8 (eOp2 dAdd (eVar 8) (eD (.int 1)))]]
theorem while_stop {t : PT} {b : PS} {vs : Vars} {st st1 : St} {f : Nat} (h : t vs st = some (false, st1)) : whileN t b (f + 1) vs st = some (.next, vs, st1) := by
  unfold whileN; rw [h, Option.bind_some, if_neg (by simp)]
theorem while_step {t : PT} {b : PS} {vs vs2 : Vars} {st st1 st2 : St} {f : Nat} {res : Option (PFlow × Vars × St)} (h : t vs st = some (true, st1)) (h2 : b vs st1 = some (.next, vs2, st2)) (h3 : whileN t b f vs2 st2 = res) : whileN t b (f + 1) vs st = res := by
  rw [whileN, h, Option.bind_some, if_pos rfl, h2, Option.bind_some]; exact h3
theorem assignTup_of {ks : List Nat} {es : List PE} {vs vs' : Vars} {st st1 : St} {ps : List PV} (h : eSeq es vs st = some (ps, st1)) (h2 : updAll vs ks ps = some vs') : sAssignTup ks es vs st = some (.next, vs', st1) := by
  unfold sAssignTup; rw [h, Option.bind_some]; dsimp only; rw [h2]; rfl
theorem meet_loop {D : List (Int × Int)} {k : Int} (hl : D.length ≤ 100) {st : St} : ∀ (f i : Nat) (acc : List (Int × Int)) (vs : Vars), vs 0 = some (.d (dom D)) → vs 5 = some (.d (dom [(k, k)])) → vs 6 = some (.ref st.length) → vs 7 = some (.d (.int (i : Int))) → vs 8 = some (.d (.int 0)) → D.length - i + 2 ≤ f → acc.length ≤ i →
    i ≤ D.length → ∃ vs', whileN meetT (sSeq meetB) f vs (st ++ [.list (acc.map pr)]) = some (.next, vs', st ++ [.list ((acc ++ meetM (D.drop i) k).map pr)]) ∧ vs' 6 = some (.ref st.length)
  | 0, i, acc, vs, h0, h5, h6, h7, h8, hf, hacc, hi => by omega
  | f + 1, i, acc, vs, h0, h5, h6, h7, h8, hf, hacc, hi => by
    have hlD : dLen (dom D) = some (.int (D.length : Int)) := by unfold dom; rw [len_tuple (by rw [List.length_map]; omega), List.length_map]
    have hl5 : dLen (dom [(k, k)]) = some (.int 1) := rfl
    by_cases hlt : i < D.length
    · have ht : meetT vs (st ++ [.list (acc.map pr)]) = some (true, st ++ [.list (acc.map pr)]) :=
        tand_of (x := true) (y := true) (t2_of (var_of h7) (op1_of (var_of h0) rfl hlD) rfl rfl (by simp [qLt]; omega)) (fun _ => t2_of (var_of h8) (op1_of (var_of h5) rfl hl5) rfl rfl rfl) (fun h => by cases h)
      have hD : D[i]? = some D[i] := List.getElem?_eq_getElem hlt
      have hdi := item_dom hD hl
      have hd5 : dItem (dom [(k, k)]) (.int 0) = some (pr (k, k)) := item_dom0 (by simp)
      rw [List.drop_eq_getElem_cons hlt]
      have eA : ∀ st : St, eOp2 dItem (eOp2 dItem (eVar 0) (eVar 7)) (eD (.int 0)) vs st = some (.d (.int D[i].1), st) := fun st => op2_of (op2_of (var_of h0) (var_of h7) rfl rfl hdi) rfl rfl rfl (item_lo _)
      have eB : ∀ st : St, eOp2 dItem (eOp2 dItem (eVar 0) (eVar 7)) (eD (.int 1)) vs st = some (.d (.int D[i].2), st) := fun st => op2_of (op2_of (var_of h0) (var_of h7) rfl rfl hdi) rfl rfl rfl (item_hi _)
      have eC : ∀ st : St, eOp2 dItem (eOp2 dItem (eVar 5) (eVar 8)) (eD (.int 0)) vs st = some (.d (.int k), st) := fun st => op2_of (op2_of (var_of h5) (var_of h8) rfl rfl hd5) rfl rfl rfl (item_lo (k, k))
      have eE : ∀ st : St, eOp2 dItem (eOp2 dItem (eVar 5) (eVar 8)) (eD (.int 1)) vs st = some (.d (.int k), st) := fun st => op2_of (op2_of (var_of h5) (var_of h8) rfl rfl hd5) rfl rfl rfl (item_hi (k, k))
      let vs1 := upd (upd vs 2 (.d (.int (max D[i].1 k)))) 3 (.d (.int (min D[i].2 k)))
      have g0 : vs1 0 = some (.d (dom D)) := h0
      have g5 : vs1 5 = some (.d (dom [(k, k)])) := h5
      have g6 : vs1 6 = some (.ref st.length) := h6
      have g7 : vs1 7 = some (.d (.int (i : Int))) := h7
      have g8 : vs1 8 = some (.d (.int 0)) := h8
      have s1 : sAssignTup [2, 3] [eOp2 dMax (eOp2 dItem (eOp2 dItem (eVar 0) (eVar 7)) (eD (.int 0))) (eOp2 dItem (eOp2 dItem (eVar 5) (eVar 8)) (eD (.int 0))), eOp2 dMin (eOp2 dItem (eOp2 dItem (eVar 0) (eVar 7)) (eD (.int 1))) (eOp2 dItem (eOp2 dItem (eVar 5) (eVar 8)) (eD (.int 1)))] vs (st ++ [.list (acc.map pr)]) = some (.next, vs1, st ++ [.list (acc.map pr)]) :=
        assignTup_of (seq_cons (op2_of (eA _) (eC _) rfl rfl rfl) (seq_cons (op2_of (eB _) (eE _) rfl rfl rfl) seq_nil)) rfl
      let acc' := if max D[i].1 k ≤ min D[i].2 k then acc ++ [(max D[i].1 k, min D[i].2 k)] else acc
      have hacc' : acc'.length ≤ i + 1 := by
        show (if max D[i].1 k ≤ min D[i].2 k then acc ++ [(max D[i].1 k, min D[i].2 k)] else acc).length ≤ _
        split
        · simp; omega
        · omega
      have s2 : sIf (tOp2 qLe (eVar 2) (eVar 3)) [sExpr (eAppend (eVar 6) (eTup [eVar 2, eVar 3]))] [] vs1 (st ++ [.list (acc.map pr)]) = some (.next, vs1, st ++ [.list (acc'.map pr)]) := by
        by_cases hle : max D[i].1 k ≤ min D[i].2 k
        · have : acc' = acc ++ [(max D[i].1 k, min D[i].2 k)] := if_pos hle
          rw [this]
          refine if_true (t2_of (var_of rfl) (var_of rfl) rfl rfl (by simp only [qLe]; rw [decide_eq_true hle])) (q_expr (append_of (xs := acc.map pr) (y := pr (max D[i].1 k, min D[i].2 k)) (var_of g6) (tup2_of (var_of rfl) (var_of rfl)) (last_get _ _) (last_get _ _) (by rw [List.length_map]; omega)) ?_)
          rw [last_set, List.map_append]; rfl
        · have : acc' = acc := if_neg hle
          rw [this]
          exact if_false (t2_of (var_of rfl) (var_of rfl) rfl rfl (by simp only [qLe]; rw [decide_eq_false hle])) rfl
      have eB1 : ∀ st : St, eOp2 dItem (eOp2 dItem (eVar 0) (eVar 7)) (eD (.int 1)) vs1 st = some (.d (.int D[i].2), st) := fun st => op2_of (op2_of (var_of g0) (var_of g7) rfl rfl hdi) rfl rfl rfl (item_hi _)
      have eE1 : ∀ st : St, eOp2 dItem (eOp2 dItem (eVar 5) (eVar 8)) (eD (.int 1)) vs1 st = some (.d (.int k), st) := fun st => op2_of (op2_of (var_of g5) (var_of g8) rfl rfl hd5) rfl rfl rfl (item_hi (k, k))
      by_cases hk : D[i].2 < k
      · have s3 : sIf (tOp2 qLt (eOp2 dItem (eOp2 dItem (eVar 0) (eVar 7)) (eD (.int 1))) (eOp2 dItem (eOp2 dItem (eVar 5) (eVar 8)) (eD (.int 1)))) [sAssign 7 (eOp2 dAdd (eVar 7) (eD (.int 1)))] [sAssign 8 (eOp2 dAdd (eVar 8) (eD (.int 1)))] vs1 (st ++ [.list (acc'.map pr)]) = some (.next, upd vs1 7 (.d (.int ((i : Int) + 1))), st ++ [.list (acc'.map pr)]) :=
          if_true (t2_of (eB1 _) (eE1 _) rfl rfl (by simp [qLt, hk])) (q_assign (op2_of (var_of g7) rfl rfl rfl rfl) rfl)
        obtain ⟨vs', e, e6⟩ := meet_loop hl f (i + 1) acc' (upd vs1 7 (.d (.int ((i : Int) + 1)))) h0 h5 h6 (by show some _ = some _; push_cast; rfl) h8 (by omega) hacc' (by omega)
        refine ⟨vs', ?_, e6⟩
        refine while_step ht (q_step s1 (q_step s2 (q_step s3 q_nil))) (e.trans ?_)
        have em : acc ++ meetM (D[i] :: D.drop (i + 1)) k = acc' ++ meetM (D.drop (i + 1)) k := by
          rw [meetM, if_pos hk]
          show _ = (if max D[i].1 k ≤ min D[i].2 k then acc ++ [(max D[i].1 k, min D[i].2 k)] else acc) ++ _
          split <;> simp
        rw [em]
      · have s3 : sIf (tOp2 qLt (eOp2 dItem (eOp2 dItem (eVar 0) (eVar 7)) (eD (.int 1))) (eOp2 dItem (eOp2 dItem (eVar 5) (eVar 8)) (eD (.int 1)))) [sAssign 7 (eOp2 dAdd (eVar 7) (eD (.int 1)))] [sAssign 8 (eOp2 dAdd (eVar 8) (eD (.int 1)))] vs1 (st ++ [.list (acc'.map pr)]) = some (.next, upd vs1 8 (.d (.int (0 + 1))), st ++ [.list (acc'.map pr)]) :=
          if_false (t2_of (eB1 _) (eE1 _) rfl rfl (by simp [qLt, hk])) (q_assign (op2_of (var_of g8) rfl rfl rfl rfl) rfl)
        obtain ⟨f', rfl⟩ : ∃ f', f = f' + 1 := ⟨f - 1, by omega⟩
        refine ⟨upd vs1 8 (.d (.int (0 + 1))), while_step ht (q_step s1 (q_step s2 (q_step s3 q_nil))) ((while_stop (st1 := st ++ [.list (acc'.map pr)]) ?_).trans ?_), h6⟩
        · exact tand_of (x := true) (y := false) (t2_of (var_of (show upd vs1 8 _ 7 = _ from h7)) (op1_of (var_of (show upd vs1 8 _ 0 = _ from h0)) rfl hlD) rfl rfl (by simp [qLt]; omega)) (fun _ => t2_of (var_of rfl) (op1_of (var_of (show upd vs1 8 _ 5 = _ from h5)) rfl hl5) rfl rfl rfl) (fun h => by cases h)
        · have em : acc ++ meetM (D[i] :: D.drop (i + 1)) k = acc' := by
            rw [meetM, if_neg hk]
            show _ = (if max D[i].1 k ≤ min D[i].2 k then acc ++ [(max D[i].1 k, min D[i].2 k)] else acc)
            split <;> simp
          rw [em]
    · have hd : D.drop i = [] := List.drop_eq_nil_of_le (by omega)
      rw [hd]
      refine ⟨vs, (while_stop (tand_of (x := false) (y := false) (t2_of (var_of h7) (op1_of (var_of h0) rfl hlD) rfl rfl (by simp [qLt]; omega)) (fun h => by cases h) (fun _ => rfl))).trans ?_, h6⟩
      simp [meetM]
theorem meet_eq {D : List (Int × Int)} {k : Int} (hl : D.length ≤ 100) (st : St) : ∃ g, f_meet [.d (dom D), .d (dom [(k, k)])] st = some (.d (dom (meetM D k)), st ++ g) := by
  obtain ⟨vs', e, e6⟩ := meet_loop (k := k) hl (st := st) 1000 0 [] (upd (upd (upd (upd (upd (fun _ => none) 5 (.d (dom [(k, k)]))) 0 (.d (dom D))) 6 (.ref st.length)) 7 (.d (.int 0))) 8 (.d (.int 0))) rfl rfl rfl rfl rfl (by omega) (by simp) (by omega)
  refine ⟨[.list ((meetM D k).map pr)], run_ret rfl (q_step (assignTup_of (seq_cons rfl (seq_cons rfl (seq_cons rfl seq_nil))) rfl) (q_step e (q_ret (op1_of (var_of e6) (last_rd _ _) ?_))))⟩
  have hm : ∀ (D : List (Int × Int)), (meetM D k).length ≤ D.length := fun D => by
    induction D with
    | nil => simp [meetM]
    | cons p D ih => unfold meetM; split <;> split <;> simp <;> omega
  have := hm D
  simp only [List.nil_append, List.drop_zero, dTuple]
  rw [if_pos (szOk_of (by rw [List.length_map]; omega))]; rfl
end Mine.Pure
end
section
namespace Mine.Pure
open PySem
theorem sg_le (s : Sg) : qEq (.str s.str) (.str "<=") = some (s.is .le) := by cases s <;> kernel_rfl
theorem sg_ge (s : Sg) : qEq (.str s.str) (.str ">=") = some (s.is .ge) := by cases s <;> kernel_rfl
theorem sg_eq (s : Sg) : qEq (.str s.str) (.str "=") = some (s.is .eq) := by cases s <;> kernel_rfl
theorem unpack_of {ks : List Nat} {e : PE} {vs vs' : Vars} {st st1 : St} {xs : List PyData} (h : e vs st = some (.d (.tuple xs), st1)) (h2 : updAll vs ks (xs.map .d) = some vs') : sUnpack ks e vs st = some (.next, vs', st1) := by
  unfold sUnpack; rw [h, Option.bind_some]; dsimp only; rw [h2]; rfl
theorem tup3_of {a b c : PE} {vs : Vars} {st st1 st2 st3 : St} {x y z : PyData} (h : a vs st = some (.d x, st1)) (h2 : b vs st1 = some (.d y, st2)) (h3 : c vs st2 = some (.d z, st3)) : eTup [a, b, c] vs st = some (.d (.tuple [x, y, z]), st3) := tup_of (seq_cons h (seq_cons h2 (seq_cons h3 seq_nil))) rfl
theorem lit_x (x : Int) (s : Sg) (k : Int) : dItem (litD x s k) (.int 0) = some (.int x) := item_tuple (k := 0) rfl (by simp)
theorem lit_s (x : Int) (s : Sg) (k : Int) : dItem (litD x s k) (.int 1) = some (.str s.str) := item_tuple (k := 1) rfl (by simp)
theorem lit_k (x : Int) (s : Sg) (k : Int) : dItem (litD x s k) (.int 2) = some (.int k) := item_tuple (k := 2) rfl (by simp)
noncomputable def negD (x : Int) (s : Sg) (k : Int) : PyData := match s with
  | .le => litD x .ge (k + 1) | .ge => litD x .le (k - 1) | .eq => litD x .ne k | .ne => litD x .eq k
theorem negation_eq (x : Int) (s : Sg) (k : Int) (st : St) : f_negation [.d (litD x s k)] st = some (.d (negD x s k), st) := by
  have u := unpack_of (ks := [10, 11, 4]) (e := eVar 9) (vs := upd (fun _ => none) 9 (.d (litD x s k))) (st := st) (xs := [.int x, .str s.str, .int k]) (var_of rfl) rfl
  cases s with
  | le => exact run_ret rfl (q_step u (q_stop (if_true (t2_of (var_of rfl) rfl rfl rfl (sg_le .le)) (q_ret (tup3_of (var_of rfl) rfl (op2_of (var_of rfl) rfl rfl rfl rfl))))))
  | ge => exact run_ret rfl (q_step u (q_skip (t2_of (var_of rfl) rfl rfl rfl (sg_le .ge)) (q_stop (if_true (t2_of (var_of rfl) rfl rfl rfl (sg_ge .ge)) (q_ret (tup3_of (var_of rfl) rfl (op2_of (var_of rfl) rfl rfl rfl rfl)))))))
  | eq => exact run_ret rfl (q_step u (q_skip (t2_of (var_of rfl) rfl rfl rfl (sg_le .eq)) (q_skip (t2_of (var_of rfl) rfl rfl rfl (sg_ge .eq)) (q_ret (eif_true (t2_of (var_of rfl) rfl rfl rfl (sg_eq .eq)) (tup3_of (var_of rfl) rfl (var_of rfl)))))))
  | ne => exact run_ret rfl (q_step u (q_skip (t2_of (var_of rfl) rfl rfl rfl (sg_le .ne)) (q_skip (t2_of (var_of rfl) rfl rfl rfl (sg_ge .ne)) (q_ret (eif_false (t2_of (var_of rfl) rfl rfl rfl (sg_eq .ne)) (tup3_of (var_of rfl) rfl (var_of rfl)))))))
theorem against_eq (x : Int) (s : Sg) (k : Int) (st : St) : f_law_against [.d (litD x s k)] st = some (.d (negD x s k), st) := by
  have u := unpack_of (ks := [10, 11, 4]) (e := eVar 9) (vs := upd (fun _ => none) 9 (.d (litD x s k))) (st := st) (xs := [.int x, .str s.str, .int k]) (var_of rfl) rfl
  cases s with
  | le => exact run_ret rfl (q_step u (q_stop (if_true (tor_of (y := false) (t2_of (var_of rfl) rfl rfl rfl (sg_le .le)) (fun h => by cases h) (fun _ => rfl)) (q_ret (eif_true (t2_of (var_of rfl) rfl rfl rfl (sg_le .le)) (tup3_of (var_of rfl) rfl (op2_of (var_of rfl) rfl rfl rfl rfl)))))))
  | ge => exact run_ret rfl (q_step u (q_stop (if_true (tor_of (t2_of (var_of rfl) rfl rfl rfl (sg_le .ge)) (fun _ => t2_of (var_of rfl) rfl rfl rfl (sg_ge .ge)) (fun h => by cases h)) (q_ret (eif_false (t2_of (var_of rfl) rfl rfl rfl (sg_le .ge)) (tup3_of (var_of rfl) rfl (op2_of (var_of rfl) rfl rfl rfl rfl)))))))
  | eq => exact run_ret rfl (q_step u (q_skip (tor_of (t2_of (var_of rfl) rfl rfl rfl (sg_le .eq)) (fun _ => t2_of (var_of rfl) rfl rfl rfl (sg_ge .eq)) (fun h => by cases h)) (q_ret (tup3_of (var_of rfl) (eif_true (t2_of (var_of rfl) rfl rfl rfl (sg_eq .eq)) rfl) (var_of rfl)))))
  | ne => exact run_ret rfl (q_step u (q_skip (tor_of (t2_of (var_of rfl) rfl rfl rfl (sg_le .ne)) (fun _ => t2_of (var_of rfl) rfl rfl rfl (sg_ge .ne)) (fun h => by cases h)) (q_ret (tup3_of (var_of rfl) (eif_false (t2_of (var_of rfl) rfl rfl rfl (sg_eq .ne)) rfl) (var_of rfl)))))
theorem keeps_eq (v : Int) (s : Sg) (k : Int) (st : St) : f_law_keeps [.d (.int v), .d (.str s.str), .d (.int k)] st = some (.d (.bool (keepsM s k v)), st) := by
  cases s with
  | le => exact run_ret rfl (q_stop (if_true (tor_of (y := false) (t2_of (var_of rfl) rfl rfl rfl (sg_le .le)) (fun h => by cases h) (fun _ => rfl)) (q_ret (eif_true (t2_of (var_of rfl) rfl rfl rfl (sg_le .le)) (op2_of (var_of rfl) (var_of rfl) rfl rfl rfl)))))
  | ge => exact run_ret rfl (q_stop (if_true (tor_of (t2_of (var_of rfl) rfl rfl rfl (sg_le .ge)) (fun _ => t2_of (var_of rfl) rfl rfl rfl (sg_ge .ge)) (fun h => by cases h)) (q_ret (eif_false (t2_of (var_of rfl) rfl rfl rfl (sg_le .ge)) (op2_of (var_of rfl) (var_of rfl) rfl rfl rfl)))))
  | eq =>
    refine run_ret rfl (q_skip (tor_of (t2_of (var_of rfl) rfl rfl rfl (sg_le .eq)) (fun _ => t2_of (var_of rfl) rfl rfl rfl (sg_ge .eq)) (fun h => by cases h)) (q_ret (eif_true (t2_of (var_of rfl) rfl rfl rfl (sg_eq .eq)) (op2_of (var_of rfl) (var_of rfl) rfl rfl ?_))))
    unfold dB
    rw [qEq_of rfl rfl (by simp [PyData.depth]), eqv_int]
    show some _ = some _
    simp [keepsM]
    rfl
  | ne =>
    refine run_ret rfl (q_skip (tor_of (t2_of (var_of rfl) rfl rfl rfl (sg_le .ne)) (fun _ => t2_of (var_of rfl) rfl rfl rfl (sg_ge .ne)) (fun h => by cases h)) (q_ret (eif_false (t2_of (var_of rfl) rfl rfl rfl (sg_eq .ne)) (op2_of (var_of rfl) (var_of rfl) rfl rfl ?_))))
    unfold dB
    rw [qNe_of rfl rfl (by simp [PyData.depth]), eqv_int]
    show some _ = some _
    simp [keepsM]
    rfl
theorem struck_eq {x : Int} {s : Sg} {k : Int} {D : List (Int × Int)} (hl : D.length ≤ 100) (st : St) : ∃ g, f_struck [.d (litD x s k), .d (dom D)] st = some (.d (dom (struckM s k D)), st ++ g) := by
  have u := assignTup_of (ks := [11, 4]) (es := [eOp2 dItem (eVar 9) (eD (.int 1)), eOp2 dItem (eVar 9) (eD (.int 2))]) (vs := upd (upd (fun _ => none) 0 (.d (dom D))) 9 (.d (litD x s k))) (st := st) (seq_cons (op2_of (var_of rfl) rfl rfl rfl (lit_s x s k)) (seq_cons (op2_of (var_of rfl) rfl rfl rfl (lit_k x s k)) seq_nil)) rfl
  cases s with
  | le => exact ⟨[], run_ret rfl (q_step u (q_stop (if_true (t2_of (var_of rfl) rfl rfl rfl (sg_le .le)) (q_ret (call_of (seq_cons (var_of rfl) (seq_cons (var_of rfl) seq_nil)) (by rw [List.append_nil]; exact up_eq hl st))))))⟩
  | ge => exact ⟨[], run_ret rfl (q_step u (q_skip (t2_of (var_of rfl) rfl rfl rfl (sg_le .ge)) (q_stop (if_true (t2_of (var_of rfl) rfl rfl rfl (sg_ge .ge)) (q_ret (call_of (seq_cons (var_of rfl) (seq_cons (var_of rfl) seq_nil)) (by rw [List.append_nil]; exact from_eq hl st)))))))⟩
  | eq =>
    obtain ⟨g, e⟩ := meet_eq (k := k) hl st
    exact ⟨g, run_ret rfl (q_step u (q_skip (t2_of (var_of rfl) rfl rfl rfl (sg_le .eq)) (q_skip (t2_of (var_of rfl) rfl rfl rfl (sg_ge .eq)) (q_ret (eif_true (t2_of (var_of rfl) rfl rfl rfl (sg_eq .eq)) (call_of (seq_cons (var_of rfl) (seq_cons (tup_of (seq_cons (tup2_of (var_of rfl) (var_of rfl)) seq_nil) rfl) seq_nil)) e))))))⟩
  | ne => exact ⟨[], run_ret rfl (q_step u (q_skip (t2_of (var_of rfl) rfl rfl rfl (sg_le .ne)) (q_skip (t2_of (var_of rfl) rfl rfl rfl (sg_ge .ne)) (q_ret (eif_false (t2_of (var_of rfl) rfl rfl rfl (sg_eq .ne)) (call_of (seq_cons (var_of rfl) (seq_cons (var_of rfl) seq_nil)) (by rw [List.append_nil]; exact without_eq hl st)))))))⟩
theorem lay_dom (D : List (Int × Int)) : (dom D).canLay0 = true := lay_prs D
theorem depth_ints : ∀ l : List Int, PyData.depthAll (l.map .int) = 0
  | [] => rfl
  | a :: l => by simp [PyData.depthAll, PyData.depth, depth_ints l]
theorem depth_prs : ∀ D : List (Int × Int), PyData.depthAll (D.map pr) ≤ 1
  | [] => by simp [PyData.depthAll]
  | a :: l => by
    have := depth_prs l
    simp [PyData.depthAll, PyData.depth, pr]; omega
theorem depth_dom (D : List (Int × Int)) : (dom D).depth ≤ 2 := by
  have := depth_prs D
  simp [dom, PyData.depth]; omega
theorem lay_il (l : List Int) : (ilist l).canLay0 = true := lay_ints l
theorem depth_il (l : List Int) : (ilist l).depth ≤ 1 := by
  simp [ilist, PyData.depth, depth_ints]
theorem qEq_dom (D E : List (Int × Int)) : qEq (dom D) (dom E) = some (D == E) := by rw [qEq_of (lay_dom _) (lay_dom _) (by have := depth_dom D; omega), eqv_dom]
theorem qNe_dom (D E : List (Int × Int)) : qNe (dom D) (dom E) = some (!(D == E)) := by rw [qNe_of (lay_dom _) (lay_dom _) (by have := depth_dom D; omega), eqv_dom]
theorem qEq_il (l m : List Int) : qEq (ilist l) (ilist m) = some (l == m) := by rw [qEq_of (lay_il _) (lay_il _) (by have := depth_il l; omega), eqv_ilist]
theorem qNe_il (l m : List Int) : qNe (ilist l) (ilist m) = some (!(l == m)) := by rw [qNe_of (lay_il _) (lay_il _) (by have := depth_il l; omega), eqv_ilist]
theorem qEq_ints (a b : Int) : qEq (.int a) (.int b) = some (a == b) := by rw [qEq_of rfl rfl (by simp [PyData.depth]), eqv_int]
theorem qNe_ints (a b : Int) : qNe (.int a) (.int b) = some (!(a == b)) := by rw [qNe_of rfl rfl (by simp [PyData.depth]), eqv_int]
noncomputable def saidM (s : Sg) (k : Int) (D : List (Int × Int)) : Int := if struckM s k D == D then 1 else if struckM s k D == [] then -1 else 0
theorem said_eq {x : Int} {s : Sg} {k : Int} {D : List (Int × Int)} (hl : D.length ≤ 100) (st : St) : ∃ g, f_said_of [.d (litD x s k), .d (dom D)] st = some (.d (.int (saidM s k D)), st ++ g) := by
  obtain ⟨g, e⟩ := struck_eq (x := x) (s := s) (k := k) hl st
  refine ⟨g, ?_⟩
  have c : eCall f_struck [eVar 9, eVar 0] (upd (upd (fun _ => none) 0 (.d (dom D))) 9 (.d (litD x s k))) st = some (.d (dom (struckM s k D)), st ++ g) := call_of (seq_cons (var_of rfl) (seq_cons (var_of rfl) seq_nil)) e
  unfold saidM
  cases h1 : struckM s k D == D with
  | true => exact run_ret rfl (q_assign c (q_stop (if_true (t2_of (var_of rfl) (var_of rfl) rfl rfl (by rw [qEq_dom, h1])) (q_ret rfl))))
  | false =>
    rw [if_neg (by simp)]
    cases h2 : struckM s k D == [] with
    | true => exact run_ret rfl (q_assign c (q_skip (t2_of (var_of rfl) (var_of rfl) rfl rfl (by rw [qEq_dom, h1])) (q_ret (eif_true (t2_of (var_of rfl) (tup_of seq_nil rfl) rfl rfl (by rw [show PyData.tuple [] = dom [] from rfl, qEq_dom, h2])) (op1_of rfl rfl rfl)))))
    | false => exact run_ret rfl (q_assign c (q_skip (t2_of (var_of rfl) (var_of rfl) rfl rfl (by rw [qEq_dom, h1])) (q_ret (eif_false (t2_of (var_of rfl) (tup_of seq_nil rfl) rfl rfl (by rw [show PyData.tuple [] = dom [] from rfl, qEq_dom, h2])) rfl))))
theorem itemSet_of {o i e : PE} {vs : Vars} {st st1 st2 st3 : St} {h : Nat} {y : PyData} {n : Int} {xs : List PyData} {j : Nat} (h1 : e vs st = some (.d y, st1)) (h2 : o vs st1 = some (.ref h, st2)) (h3 : i vs st2 = some (.d (.int n), st3)) (h4 : st3[h]? = some (.list xs)) (hs : small n = true) (hl : xs.length ≤ 1000000) (hj : idx xs.length n = some j) :
    sItemSet o i e vs st = some (.next, vs, st3.set h (.list (xs.set j y))) := by
  unfold sItemSet
  rw [h1, Option.bind_some]; dsimp only; rw [h2, Option.bind_some]; dsimp only; rw [h3, Option.bind_some]; dsimp only; rw [h4]; dsimp only
  rw [if_pos (by rw [hs, szOk_of hl]; rfl), hj]; rfl
noncomputable def rangeB : List PS := [sIf (tAnd (tOp2 qNe (eVar 6) (eLst [])) (tOp2 qEq (eOp2 dAdd (eOp2 dItem (eOp2 dItem (eVar 6) (eOp1 dNeg (eD (.int 1)))) (eD (.int 1))) (eD (.int 1))) (eVar 1))) [sItemSet (eVar 6) (eOp1 dNeg (eD (.int 1))) (eTup [eOp2 dItem (eOp2 dItem (eVar 6) (eOp1 dNeg (eD (.int 1)))) (eD (.int 0)), eVar 1])] [sExpr (eAppend (eVar 6) (eTup [eVar 1, eVar 1]))]]
theorem qNe_prs (D : List (Int × Int)) : qNe (.list (D.map pr)) (.list []) = some (!D.isEmpty) := by
  rw [qNe_of (show (PyData.list (D.map pr)).canLay0 = true from lay_prs D) rfl (by have := depth_prs D; simp [PyData.depth]; omega)]
  cases D <;> rfl
theorem set_last {D : List (Int × Int)} {q r : Int × Int} (h : D.getLast? = some q) : (D.map pr).set (D.length - 1) (pr r) = (D.dropLast ++ [r]).map pr := by
  obtain ⟨ys, rfl⟩ : ∃ ys, D = ys ++ [q] := by
    rw [List.getLast?_eq_some_iff] at h; exact h
  simp
theorem rangeStep_len (acc : List (Int × Int)) (v : Int) : (rangeStep acc v).length ≤ acc.length + 1 := by
  unfold rangeStep
  split <;> (try split) <;> simp <;> omega
theorem range_loop {st : St} : ∀ (l : List Int) (acc : List (Int × Int)) (vs : Vars), vs 6 = some (.ref st.length) → acc.length + l.length ≤ 1000 → ∃ vs', forL (.one 1) (sSeq rangeB) (l.map .int) vs (st ++ [.list (acc.map pr)]) = some (.next, vs', st ++ [.list ((l.foldl rangeStep acc).map pr)]) ∧ vs' 6 = some (.ref st.length)
  | [], acc, vs, h6, _ => ⟨vs, rfl, h6⟩
  | v :: l, acc, vs, h6, hl => by
    simp only [List.length_cons] at hl
    have g6 : upd vs 1 (.d (.int v)) 6 = some (.ref st.length) := h6
    have hla : (acc.map pr).length ≤ 1000000 := by rw [List.length_map]; omega
    have eN : ∀ st : St, eOp1 dNeg (eD (.int 1)) (upd vs 1 (.d (.int v))) st = some (.d (.int (-1)), st) := fun st => op1_of rfl rfl rfl
    have body : sSeq rangeB (upd vs 1 (.d (.int v))) (st ++ [.list (acc.map pr)]) = some (.next, upd vs 1 (.d (.int v)), st ++ [.list ((rangeStep acc v).map pr)]) := by
      have eApp : sExpr (eAppend (eVar 6) (eTup [eVar 1, eVar 1])) (upd vs 1 (.d (.int v))) (st ++ [.list (acc.map pr)]) = some (.next, upd vs 1 (.d (.int v)), st ++ [.list ((acc ++ [(v, v)]).map pr)]) := by
        have := append_of (o := eVar 6) (e := eTup [eVar 1, eVar 1]) (vs := upd vs 1 (.d (.int v))) (st := st ++ [.list (acc.map pr)]) (xs := acc.map pr) (y := pr (v, v)) (var_of g6) (tup2_of (var_of rfl) (var_of rfl)) (last_get _ _) (last_get _ _) hla
        rw [last_set] at this
        unfold sExpr
        rw [this, List.map_append]; rfl
      cases hg : acc.getLast? with
      | none =>
        have hnil : acc = [] := List.getLast?_eq_none_iff.mp hg
        subst hnil
        refine q_step (if_false (tand_of (x := false) (y := false) (t2_of (var_of g6) (lst_of seq_nil rfl) (last_rd _ _) rfl (qNe_prs [])) (fun h => by cases h) (fun _ => rfl)) (q_step eApp q_nil)) q_nil
      | some q =>
        have hne : acc.isEmpty = false := by cases acc with | nil => cases hg | cons _ _ => rfl
        have hlast : dItem (.list (acc.map pr)) (.int (-1)) = some (pr q) := item_list_last (by rw [List.getLast?_map, hg]; rfl) hla
        have eQ : eOp2 dItem (eVar 6) (eOp1 dNeg (eD (.int 1))) (upd vs 1 (.d (.int v))) (st ++ [.list (acc.map pr)]) = some (.d (pr q), st ++ [.list (acc.map pr)]) := op2_of (var_of g6) (eN _) (last_rd _ _) rfl hlast
        have tA : tOp2 qNe (eVar 6) (eLst []) (upd vs 1 (.d (.int v))) (st ++ [.list (acc.map pr)]) = some (true, st ++ [.list (acc.map pr)]) := t2_of (var_of g6) (lst_of seq_nil rfl) (last_rd _ _) rfl (by rw [qNe_prs, hne]; rfl)
        have tB : tOp2 qEq (eOp2 dAdd (eOp2 dItem (eOp2 dItem (eVar 6) (eOp1 dNeg (eD (.int 1)))) (eD (.int 1))) (eD (.int 1))) (eVar 1) (upd vs 1 (.d (.int v))) (st ++ [.list (acc.map pr)]) = some (q.2 + 1 == v, st ++ [.list (acc.map pr)]) :=
          t2_of (op2_of (op2_of eQ rfl rfl rfl (item_hi q)) rfl rfl rfl rfl) (var_of rfl) rfl rfl (qEq_ints _ _)
        have hlen : 0 < acc.length := by cases acc with | nil => cases hg | cons _ _ => simp
        unfold rangeStep
        rw [hg]
        dsimp only
        by_cases hv : q.2 + 1 = v
        · rw [if_pos hv]
          have tB' := tB
          rw [show (q.2 + 1 == v) = true from beq_iff_eq.mpr hv] at tB'
          refine q_step (if_true (tand_of (x := true) (y := true) tA (fun _ => tB') (fun h => by cases h)) (q_step ((itemSet_of (xs := acc.map pr) (j := acc.length - 1) (y := pr (q.1, v)) (tup2_of (op2_of eQ rfl rfl rfl (item_lo q)) (var_of rfl)) (var_of g6) (eN _) (last_get _ _) rfl hla (by rw [List.length_map]; exact idx_neg1 hlen)).trans ?_) q_nil)) q_nil
          rw [last_set, set_last hg]
        · rw [if_neg hv]
          have tB' := tB
          rw [show (q.2 + 1 == v) = false from beq_eq_false_iff_ne.mpr hv] at tB'
          exact q_step (if_false (tand_of (x := true) (y := false) tA (fun _ => tB') (fun h => by cases h)) (q_step eApp q_nil)) q_nil
    have hstep := rangeStep_len acc v
    obtain ⟨vs', e, e6⟩ := range_loop (st := st) l (rangeStep acc v) (upd vs 1 (.d (.int v))) g6 (by omega)
    exact ⟨vs', forL_step rfl body e, e6⟩
theorem range_len : ∀ (l : List Int) (acc : List (Int × Int)), (l.foldl rangeStep acc).length ≤ acc.length + l.length
  | [], acc => by simp
  | v :: l, acc => by
    have := range_len l (rangeStep acc v)
    have hstep := rangeStep_len acc v
    simp only [List.foldl_cons, List.length_cons]; omega
theorem ranges_eq {l : List Int} (hl : l.length ≤ 100) (st : St) : ∃ g, f_law_ranges [.d (ilist l)] st = some (.d (dom (rangesM l)), st ++ g) := by
  obtain ⟨vs', e, e6⟩ := range_loop (st := st) l [] (upd (upd (fun _ => none) 24 (.d (ilist l))) 6 (.ref st.length)) rfl (by simp; omega)
  refine ⟨[.list ((rangesM l).map pr)], run_ret rfl (q_assign (v := .ref st.length) rfl (q_step (for_of (iVal_list (xs := l.map .int) (var_of rfl) (by simp; omega)) e) (q_ret (op1_of (var_of e6) (last_rd _ _) ?_))))⟩
  have hle : (rangesM l).length ≤ l.length := by have := range_len l []; simpa [rangesM] using this
  show dTuple (.list ((rangesM l).map pr)) = _
  dsimp only [dTuple]
  rw [if_pos (szOk_of (by rw [List.length_map]; omega))]; rfl
end Mine.Pure
end
section
set_option maxRecDepth 100000
namespace Mine.Pure
open PySem
noncomputable def win : List Int := [-1, 0, 1, 2, 3, 4, 5, 6]
noncomputable def subs : List Int → List (List Int)
  | [] => [[]]
  | x :: xs => subs xs ++ (subs xs).map (x :: ·)
theorem mem_subs {l w : List Int} (h : l.Sublist w) : l ∈ subs w := by
  induction h with
  | slnil => exact List.mem_cons_self
  | cons a _ ih => exact List.mem_append_left _ ih
  | cons_cons a _ ih => exact List.mem_append_right _ (List.mem_map.mpr ⟨_, ih, rfl⟩)
noncomputable def kList : List Int := [-2, -1, 0, 1, 2, 3, 4, 5, 6]
noncomputable def vList : List Int := [-3, -2, -1, 0, 1, 2, 3, 4, 5, 6, 7, 8, 9]
noncomputable def chk1 (l : List Int) : Bool := l.isEmpty || ((rangesM l).head?.map (·.1) == l.head? && (rangesM l).getLast?.map (·.2) == l.getLast? && ((rangesM l).map fun p => p.2 - p.1 + 1).sum == (l.length : Int))
noncomputable def chk2 (l : List Int) : Bool := (vList.filter fun v => nextM (rangesM l) v == some v) == l
noncomputable def chk3 (s : Sg) (l : List Int) : Bool := kList.all fun k => struckM s k (rangesM l) == rangesM (l.filter (keepsM s k)) && (rangesM (l.filter (keepsM s k)) == rangesM l) == (l.filter (keepsM s k) == l) && (rangesM (l.filter (keepsM s k)) == []) == (l.filter (keepsM s k) == [])
noncomputable def chk4 (l : List Int) : Bool := (match rangesM l with | [p] => p.1 == p.2 | _ => false) == (l.length == 1)
noncomputable def chk5 (l : List Int) : Bool := decide ((rangesM l).length ≤ 4) && decide (l.length ≤ 8)
theorem all1 : (subs win).all chk1 = true := by decide +kernel
theorem all2 : (subs win).all chk2 = true := by decide +kernel
theorem all3le : (subs win).all (chk3 .le) = true := by decide +kernel
theorem all3ge : (subs win).all (chk3 .ge) = true := by decide +kernel
theorem all3eq : (subs win).all (chk3 .eq) = true := by decide +kernel
theorem all3ne : (subs win).all (chk3 .ne) = true := by decide +kernel
theorem all3 (s : Sg) : (subs win).all (chk3 s) = true := by
  cases s
  · exact all3le
  · exact all3ge
  · exact all3eq
  · exact all3ne
theorem all4 : (subs win).all chk4 = true := by decide +kernel
theorem all5 : (subs win).all chk5 = true := by decide +kernel
end Mine.Pure
end
section
set_option maxRecDepth 100000
namespace Mine.Pure
open PySem
theorem win1 {l : List Int} (h : l.Sublist win) (hn : l ≠ []) : (rangesM l).head?.map (·.1) = l.head? ∧ (rangesM l).getLast?.map (·.2) = l.getLast? ∧ ((rangesM l).map fun p => p.2 - p.1 + 1).sum = (l.length : Int) := by
  have := List.all_eq_true.mp all1 l (mem_subs h)
  unfold chk1 at this
  cases l with
  | nil => exact absurd rfl hn
  | cons a l => simpa [and_assoc] using this
theorem win2 {l : List Int} (h : l.Sublist win) : (vList.filter fun v => nextM (rangesM l) v == some v) = l := by
  have := List.all_eq_true.mp all2 l (mem_subs h)
  unfold chk2 at this
  exact eq_of_beq this
theorem win3 {l : List Int} (h : l.Sublist win) {k : Int} (hk : k ∈ kList) (s : Sg) : struckM s k (rangesM l) = rangesM (l.filter (keepsM s k)) ∧ (rangesM (l.filter (keepsM s k)) == rangesM l) = (l.filter (keepsM s k) == l) ∧ (rangesM (l.filter (keepsM s k)) == []) = (l.filter (keepsM s k) == []) := by
  have := List.all_eq_true.mp (all3 s) l (mem_subs h)
  unfold chk3 at this
  have := List.all_eq_true.mp this k hk
  simp only [Bool.and_eq_true] at this
  exact ⟨eq_of_beq this.1.1, eq_of_beq this.1.2, eq_of_beq this.2⟩
theorem win4 {l : List Int} (h : l.Sublist win) : (match rangesM l with | [p] => p.1 == p.2 | _ => false) = (l.length == 1) := by
  have := List.all_eq_true.mp all4 l (mem_subs h)
  unfold chk4 at this
  exact eq_of_beq this
theorem win5 {l : List Int} (h : l.Sublist win) : (rangesM l).length ≤ 4 ∧ l.length ≤ 8 := by
  have := List.all_eq_true.mp all5 l (mem_subs h)
  unfold chk5 at this
  simpa using this
noncomputable def keptE (own : PE) : PE := eComp (.one 1) (iVal own) [tVal (eCall f_law_keeps [eVar 1, eOp2 dItem (eVar 9) (eD (.int 1)), eOp2 dItem (eVar 9) (eD (.int 2))])] (eVar 1)
theorem kept_eq {own : PE} {vs : Vars} {st : St} {x : Int} {s : Sg} {k : Int} {l : List Int} (h9 : vs 9 = some (.d (litD x s k))) (ho : own vs st = some (.d (ilist l), st)) (hl : l.length ≤ 100) : keptE own vs st = some (.d (ilist (l.filter (keepsM s k))), st) := by
  refine comp_of (iVal_list (xs := l.map .int) ho (by simp; omega)) (comp_pure (g := fun v => PyData.int v) (p := keepsM s k) (f := .int) fun v _ => ⟨upd vs 1 (.d (.int v)), rfl, ifs_one (tval_of (call_of (seq_cons (var_of rfl) (seq_cons (op2_of (var_of (show upd vs 1 (.d (.int v)) 9 = _ from h9)) rfl rfl rfl (lit_s x s k)) (seq_cons (op2_of (var_of (show upd vs 1 (.d (.int v)) 9 = _ from h9)) rfl rfl rfl (lit_k x s k)) seq_nil))) (keeps_eq v s k st))), fun _ => var_of rfl⟩)
noncomputable def ownD (L : List (List Int)) : PyData := .list (L.map ilist)
noncomputable def saidL (s : Sg) (k : Int) (l : List Int) : Int := if l.filter (keepsM s k) == l then 1 else if l.filter (keepsM s k) == [] then -1 else 0
theorem saidL_M {l : List Int} (h : l.Sublist win) {k : Int} (hk : k ∈ kList) (s : Sg) : saidM s k (rangesM l) = saidL s k l := by
  obtain ⟨h1, h2, h3⟩ := win3 h hk s
  unfold saidM saidL
  rw [h1, h2, h3]
theorem item_own {L : List (List Int)} {x : Nat} {l : List Int} (h : L[x]? = some l) (hL : L.length ≤ 100) : dItem (ownD L) (.int (x : Int)) = some (ilist l) := item_list (by rw [List.getElem?_map, h]; rfl) (by simp; omega)
theorem law_said_eq {L : List (List Int)} {x : Nat} {l : List Int} {s : Sg} {k : Int} (h : L[x]? = some l) (hL : L.length ≤ 100) (hl : l.length ≤ 100) (st : St) : f_law_said [.d (ownD L), .d (litD x s k)] st = some (.d (.int (saidL s k l)), st) := by
  have oE : ∀ vs : Vars, vs 27 = some (.d (ownD L)) → vs 9 = some (.d (litD x s k)) → eOp2 dItem (eVar 27) (eOp2 dItem (eVar 9) (eD (.int 0))) vs st = some (.d (ilist l), st) := fun vs h1 h2 => op2_of (var_of h1) (op2_of (var_of h2) rfl rfl rfl (lit_x x s k)) rfl rfl (item_own h hL)
  have c := kept_eq (own := eOp2 dItem (eVar 27) (eOp2 dItem (eVar 9) (eD (.int 0)))) (vs := upd (upd (fun _ => none) 9 (.d (litD x s k))) 27 (.d (ownD L))) rfl (oE _ rfl rfl) hl
  have tE := t2_of (f := qEq) (a := eVar 12) (vs := upd (upd (upd (fun _ => none) 9 (.d (litD x s k))) 27 (.d (ownD L))) 12 (.d (ilist (l.filter (keepsM s k))))) (var_of rfl) (oE _ rfl rfl) rfl rfl (qEq_il _ _)
  have tN := t2_of (f := qEq) (a := eVar 12) (b := eLst []) (st := st) (vs := upd (upd (upd (fun _ => none) 9 (.d (litD x s k))) 27 (.d (ownD L))) 12 (.d (ilist (l.filter (keepsM s k))))) (y := ilist []) (var_of rfl) (lst_of seq_nil rfl) rfl rfl (qEq_il _ _)
  unfold saidL
  cases h1 : l.filter (keepsM s k) == l with
  | true =>
    rw [h1] at tE
    exact run_ret rfl (q_assign c (q_stop (if_true tE (q_ret rfl))))
  | false =>
    rw [h1] at tE
    rw [if_neg (by simp)]
    cases h2 : l.filter (keepsM s k) == [] with
    | true => rw [h2] at tN; exact run_ret rfl (q_assign c (q_skip tE (q_ret (eif_true tN (op1_of rfl rfl rfl)))))
    | false => rw [h2] at tN; exact run_ret rfl (q_assign c (q_skip tE (q_ret (eif_false tN rfl))))
noncomputable def Agree (S : List Nat) (st st' : St) : Prop := ∀ i, i ∉ S → ∀ o, st[i]? = some o → st'[i]? = some o
theorem Agree.refl (S : List Nat) (st : St) : Agree S st st := fun _ _ _ e => e
theorem Agree.trans {S : List Nat} {a b c : St} (h : Agree S a b) (h' : Agree S b c) : Agree S a c := fun i hi o e => h' i hi o (h i hi o e)
theorem Agree.mono {S S' : List Nat} {a b : St} (h : Agree S a b) (hs : ∀ i ∈ S, i ∈ S') : Agree S' a b := fun i hi o e => h i (fun m => hi (hs i m)) o e
theorem Agree.app (st g : St) : Agree [] st (st ++ g) := fun i _ o e => by rw [List.getElem?_append_left (List.getElem?_eq_some_iff.mp e).1]; exact e
theorem Agree.set (st : St) (i : Nat) (o : PObj) : Agree [i] st (st.set i o) := fun j hj o' e => by rw [List.getElem?_set_ne (fun z => hj (by simp [z]))]; exact e
noncomputable def feedD (cs : List Int) (c b : Int) : List (Nat × PV) := [(41, .d (ilist cs)), (42, .d (.int c)), (43, .d (.int b))]
noncomputable def Feed (st : St) (cs : List Int) (b N : Int) : Prop := ∃ c : Int, st[0]? = some (.sdict (feedD cs c b)) ∧ 0 ≤ c ∧ c ≤ N
theorem Feed.keep {S : List Nat} {st st' : St} {cs : List Int} {b N : Int} (h : Feed st cs b N) (a : Agree S st st') (hS : 0 ∉ S) : Feed st' cs b N := let ⟨c, h1, h2⟩ := h; ⟨c, a 0 hS _ h1, h2⟩
theorem Feed.le {st : St} {cs : List Int} {b N N' : Int} (h : Feed st cs b N) (hN : N ≤ N') : Feed st cs b N' := let ⟨c, h1, h2, h3⟩ := h; ⟨c, h1, h2, by omega⟩
theorem key_of {a : PE} {k : Nat} {vs : Vars} {st st1 : St} {i : Nat} {es : List (Nat × PV)} {v : PV} (h : a vs st = some (.ref i, st1)) (h2 : st1[i]? = some (.sdict es)) (h3 : es.lookup k = some v) : eKey a k vs st = some (v, st1) := by
  unfold eKey; rw [h, Option.bind_some]; dsimp only; rw [h2]; dsimp only; rw [h3]; rfl
theorem keySet_of {o e : PE} {k : Nat} {vs : Vars} {st st1 st2 : St} {i : Nat} {es : List (Nat × PV)} {v u : PV} (h : e vs st = some (v, st1)) (h1 : o vs st1 = some (.ref i, st2)) (h2 : st2[i]? = some (.sdict es)) (h3 : es.lookup k = some u) (hl : es.length ≤ 1000000) : sKeySet o k e vs st = some (.next, vs, st2.set i (.sdict (setKey es k v))) := by
  unfold sKeySet
  rw [h, Option.bind_some]; dsimp only; rw [h1, Option.bind_some]
  unfold putKey
  dsimp only
  rw [h2]; dsimp only
  rw [if_pos (by rw [h3, szOk_of hl]; rfl)]; rfl
theorem mod_of {a b : Int} (hb : 0 < b) (hb' : b ≤ 1000000) : dMod (.int a) (.int b) = some (.int (Int.fmod a b)) := by
  dsimp only [dMod]; rw [if_pos (by rw [small_of (by omega) hb']; simpa using hb)]
theorem mul_of {a b : Int} (h1 : -1000000 ≤ a) (h2 : a ≤ 1000000) (h3 : -1000000 ≤ b) (h4 : b ≤ 1000000) : dMul (.int a) (.int b) = some (.int (a * b)) := by
  dsimp only [dMul]; rw [small_of h1 h2, small_of h3 h4]; rfl
theorem draw_eq {st : St} {cs : List Int} {b N m : Int} (h : Feed st cs b N) (hN : N ≤ 1000) (hcs : cs.length ≤ 48) (hb : 0 ≤ b ∧ b ≤ 10000) (hm : 1 ≤ m ∧ m ≤ 1000) :
    ∃ r st', 0 ≤ r ∧ r < m ∧ f_law_draw [.ref 0, .d (.int m)] st = some (.d (.int r), st') ∧ Agree [0] st st' ∧ Feed st' cs b (N + 1) := by
  obtain ⟨c, h1, h2, h3⟩ := h
  have hlt : 0 < st.length := (List.getElem?_eq_some_iff.mp h1).1
  let vs0 : Vars := upd (upd (fun _ => none) 23 (.d (.int m))) 22 (.ref 0)
  let vs1 : Vars := upd vs0 4 (.d (.int c))
  let st1 : St := st.set 0 (.sdict (feedD cs (c + 1) b))
  have g1 : st1[0]? = some (.sdict (feedD cs (c + 1) b)) := List.getElem?_set_self hlt
  have a1 : sAssign 4 (eKey (eVar 22) 42) vs0 st = some (.next, vs1, st) := by
    unfold sAssign; rw [key_of (var_of rfl) h1 rfl]; rfl
  have a2 : sKeySet (eVar 22) 42 (eOp2 dAdd (eVar 4) (eD (.int 1))) vs1 st = some (.next, vs1, st1) := keySet_of (op2_of (var_of rfl) rfl rfl rfl rfl) (var_of rfl) h1 rfl (by simp [feedD])
  have kC : eKey (eVar 22) 41 vs1 st1 = some (.d (ilist cs), st1) := key_of (var_of rfl) g1 rfl
  have kB : eKey (eVar 22) 43 vs1 st1 = some (.d (.int b), st1) := key_of (var_of rfl) g1 rfl
  have ag : Agree [0] st st1 := Agree.set st 0 _
  have fe : Feed st1 cs b (N + 1) := ⟨c + 1, g1, by omega, by omega⟩
  have hlen : dLen (ilist cs) = some (.int cs.length) := by unfold ilist; rw [len_list (by simp; omega), List.length_map]
  by_cases hc : c < cs.length
  · obtain ⟨j, rfl⟩ := Int.eq_ofNat_of_zero_le h2
    have hj : j < cs.length := by omega
    have it : dItem (ilist cs) (.int (j : Int)) = some (.int cs[j]) := item_list (by rw [List.getElem?_map, List.getElem?_eq_getElem hj]; rfl) (by simp; omega)
    refine ⟨Int.fmod (cs[j].natAbs : Int) m, st1, Int.fmod_nonneg_of_pos _ (by omega), Int.fmod_lt_of_pos _ (by omega), ?_, ag, fe⟩
    refine run_ret rfl (q_step a1 (q_step a2 (q_stop (if_true (t2_of (var_of rfl) (op1_of kC rfl hlen) rfl rfl (by simp [qLt]; omega)) (q_ret (op2_of (op1_of (op2_of kC (var_of rfl) rfl rfl it) rfl rfl) (var_of rfl) rfl rfl (mod_of (by omega) (by omega))))))))
  · refine ⟨Int.fmod (Int.fmod (7 * b + 37 * c * c + 11 * c + 3) 101) m, st1, Int.fmod_nonneg_of_pos _ (by omega), Int.fmod_lt_of_pos _ (by omega), ?_, ag, fe⟩
    refine run_ret rfl (q_step a1 (q_step a2 (q_skip (t2_of (var_of rfl) (op1_of kC rfl hlen) rfl rfl (by simp [qLt]; omega)) (q_ret (op2_of (op2_of (op2_of (op2_of (op2_of (op2_of rfl kB rfl rfl (mul_of (by omega) (by omega) (by omega) (by omega))) (op2_of (op2_of rfl (var_of rfl) rfl rfl (mul_of (by omega) (by omega) (by omega) (by omega))) (var_of rfl) rfl rfl (mul_of (by omega) (by omega) (by omega) (by omega))) rfl rfl rfl) (op2_of rfl (var_of rfl) rfl rfl (mul_of (by omega) (by omega) (by omega) (by omega))) rfl rfl rfl) rfl rfl rfl rfl) rfl rfl rfl (mod_of (by omega) (by omega))) (var_of rfl) rfl rfl (mod_of (by omega) (by omega)))))))
noncomputable def signOf (i : Int) : Sg := if i = 0 then .le else if i = 1 then .ge else if i = 2 then .eq else .ne
theorem draw_call {vs : Vars} {st : St} {cs : List Int} {b N m : Int} {e : PE} (hv : vs 22 = some (.ref 0)) (he : ∀ st, e vs st = some (.d (.int m), st)) (h : Feed st cs b N) (hN : N ≤ 1000) (hcs : cs.length ≤ 48) (hb : 0 ≤ b ∧ b ≤ 10000) (hm : 1 ≤ m ∧ m ≤ 1000) :
    ∃ r st', 0 ≤ r ∧ r < m ∧ eCall f_law_draw [eVar 22, e] vs st = some (.d (.int r), st') ∧ Agree [0] st st' ∧ Feed st' cs b (N + 1) := by
  obtain ⟨r, st', h1, h2, h3, h4, h5⟩ := draw_eq h hN hcs hb hm
  exact ⟨r, st', h1, h2, call_of (seq_cons (var_of hv) (seq_cons (he st) seq_nil)) h3, h4, h5⟩
theorem literal_eq {st : St} {cs : List Int} {b N : Int} {m : Nat} (h : Feed st cs b N) (hN : N ≤ 900) (hcs : cs.length ≤ 48) (hb : 0 ≤ b ∧ b ≤ 10000) (hm : 1 ≤ m ∧ m ≤ 3) :
    ∃ (x : Nat) (s : Sg) (k : Int) (st' : St), x < m ∧ k ∈ kList ∧ f_law_literal [.ref 0, .d (.int (m : Int))] st = some (.d (litD x s k), st') ∧ Agree [0] st st' ∧ Feed st' cs b (N + 3) := by
  let vs0 : Vars := upd (upd (fun _ => none) 23 (.d (.int (m : Int)))) 22 (.ref 0)
  obtain ⟨r, st1, r1, r2, r3, r4, r5⟩ := draw_call (vs := vs0) (e := eVar 23) (m := m) rfl (fun _ => rfl) h (by omega) hcs hb (by omega)
  obtain ⟨i, st2, i1, i2, i3, i4, i5⟩ := draw_call (vs := vs0) (e := eD (.int 4)) (m := 4) rfl (fun _ => rfl) r5 (by omega) hcs hb (by omega)
  obtain ⟨x, rfl⟩ := Int.eq_ofNat_of_zero_le r1
  let vs1 : Vars := upd (upd vs0 10 (.d (.int (x : Int)))) 11 (.d (.str (signOf i).str))
  obtain ⟨k, st3, k1, k2, k3, k4, k5⟩ := draw_call (vs := vs1) (e := eD (.int 9)) (m := 9) rfl (fun _ => rfl) i5 (by omega) hcs hb (by omega)
  refine ⟨x, signOf i, k - 2, st3, by omega, ?_, ?_, (r4.trans i4).trans k4, k5.le (by omega)⟩
  · have : k = 0 ∨ k = 1 ∨ k = 2 ∨ k = 3 ∨ k = 4 ∨ k = 5 ∨ k = 6 ∨ k = 7 ∨ k = 8 := by omega
    rcases this with rfl | rfl | rfl | rfl | rfl | rfl | rfl | rfl | rfl <;> decide
  · refine run_ret rfl (q_step (assignTup_of (seq_cons r3 (seq_cons (op2_of (x := .list [.str "<=", .str ">=", .str "=", .str "!="]) (lst_of (seq_cons rfl (seq_cons rfl (seq_cons rfl (seq_cons rfl seq_nil)))) rfl) i3 rfl rfl (z := .str (signOf i).str) ?_) seq_nil)) rfl) (q_ret (tup3_of (var_of rfl) (var_of rfl) (op2_of k3 rfl rfl rfl rfl))))
    have : i = 0 ∨ i = 1 ∨ i = 2 ∨ i = 3 := by omega
    rcases this with rfl | rfl | rfl | rfl <;> rfl
end Mine.Pure
end
section
set_option maxRecDepth 100000
namespace Mine.Pure
open PySem
noncomputable def Nice (n : Nat) (d : PyData) : Prop := d.canLay0 = true ∧ d.depth ≤ n
theorem Nice.mono {n m : Nat} {d : PyData} (h : Nice n d) (hn : n ≤ m) : Nice m d := ⟨h.1, Nat.le_trans h.2 hn⟩
theorem nice_all {n : Nat} : ∀ {xs : List PyData}, (∀ x ∈ xs, Nice n x) → PyData.canLayAll0 xs = true ∧ PyData.depthAll xs ≤ n
  | [], _ => ⟨rfl, by simp [PyData.depthAll]⟩
  | x :: xs, h => by
    have h1 := h x List.mem_cons_self
    have h2 := nice_all (xs := xs) fun y hy => h y (List.mem_cons_of_mem _ hy)
    refine ⟨by simp [PyData.canLayAll0, h1.1, h2.1], ?_⟩
    have := h1.2
    simp only [PyData.depthAll]; omega
theorem Nice.list {n : Nat} {xs : List PyData} (h : ∀ x ∈ xs, Nice n x) : Nice (n + 1) (.list xs) :=
  ⟨(nice_all h).1, by simp only [PyData.depth]; have := (nice_all h).2; omega⟩
theorem Nice.tuple {n : Nat} {xs : List PyData} (h : ∀ x ∈ xs, Nice n x) : Nice (n + 1) (.tuple xs) :=
  ⟨(nice_all h).1, by simp only [PyData.depth]; have := (nice_all h).2; omega⟩
theorem nice_int (n : Nat) (i : Int) : Nice n (.int i) := ⟨rfl, by simp [PyData.depth]⟩
theorem nice_bool (n : Nat) (b : Bool) : Nice n (.bool b) := ⟨rfl, by simp [PyData.depth]⟩
theorem nice_none (n : Nat) : Nice n .none := ⟨rfl, by simp [PyData.depth]⟩
theorem nice_sg (n : Nat) (s : Sg) : Nice n (.str s.str) := ⟨by cases s <;> kernel_rfl, by simp [PyData.depth]⟩
theorem nice_lit (x : Int) (s : Sg) (k : Int) : Nice 1 (litD x s k) := Nice.tuple (n := 0) (by
  intro y hy
  simp only [List.mem_cons, List.not_mem_nil, or_false] at hy
  rcases hy with rfl | rfl | rfl
  · exact nice_int _ _
  · exact nice_sg _ _
  · exact nice_int _ _)
theorem nice_dom (D : List (Int × Int)) : Nice 2 (dom D) := ⟨lay_dom D, depth_dom D⟩
theorem nice_il (l : List Int) : Nice 1 (ilist l) := ⟨lay_il l, depth_il l⟩
theorem qEq_nice {n m : Nat} {x y : PyData} (hx : Nice n x) (hy : Nice m y) (hn : n ≤ 50) : qEq x y = some (PyData.eqv x y) := qEq_of hx.1 hy.1 (Nat.le_trans hx.2 hn)
theorem qNe_nice {n m : Nat} {x y : PyData} (hx : Nice n x) (hy : Nice m y) (hn : n ≤ 50) : qNe x y = some (!PyData.eqv x y) := qNe_of hx.1 hy.1 (Nat.le_trans hx.2 hn)
theorem qEq_self {n : Nat} {x : PyData} (hx : Nice n x) (hn : n ≤ 50) : qEq x x = some true := by rw [qEq_nice hx hx hn, PySem.SeqAt.eqv_refl x hx.1]
theorem qNe_self {n : Nat} {x : PyData} (hx : Nice n x) (hn : n ≤ 50) : qNe x x = some false := by rw [qNe_nice hx hx hn, PySem.SeqAt.eqv_refl x hx.1]; rfl
structure En where
  x : Nat
  old : List Int
  s : Sg
  k : Int
  rs : Option (List PyData)
  spk : Int
noncomputable def rsD : Option (List PyData) → PyData
  | none => .none
  | some xs => .tuple xs
noncomputable def domL (l : List Int) : PyData := dom (rangesM l)
noncomputable def En.D (e : En) : PyData := .tuple [.int e.x, domL e.old, litD e.x e.s e.k, rsD e.rs, .int e.spk]
structure Told where
  M : Nat
  N : Nat
  spk : Int
  failed : Bool
  clash : PyData
  L : List (List Int)
  F : List (List Int)
  T : List En
  ms : List Nat
  ks : List Int
noncomputable def attrs (t : Told) : List (Nat × PV) := [(36, .ref 3), (30, .ref 4), (37, .ref 5), (38, .ref t.M), (39, .ref t.N), (16, .d (.int t.spk)), (40, .d (.bool t.failed)), (35, .d t.clash)]
noncomputable def natD (n : Nat) : PyData := .int n
structure TI (st : St) (t : Told) : Prop where
  a : st[1]? = some (.sdict (attrs t))
  i : st[2]? = some (.inst 1)
  d : st[3]? = some (.list (t.L.map domL))
  f : st[4]? = some (.list (t.F.map domL))
  tr : st[5]? = some (.list (t.T.map En.D))
  m : st[t.M]? = some (.list (t.ms.map natD))
  n : st[t.N]? = some (.idict t.ks)
  lm : 5 < t.M
theorem TI.keep {S : List Nat} {st st' : St} {t : Told} (h : TI st t) (a : Agree S st st') (h1 : 1 ∉ S) (h2 : 2 ∉ S) (h3 : 3 ∉ S) (h4 : 4 ∉ S) (h5 : 5 ∉ S) (hM : t.M ∉ S) (hN : t.N ∉ S) : TI st' t :=
  ⟨a 1 h1 _ h.a, a 2 h2 _ h.i, a 3 h3 _ h.d, a 4 h4 _ h.f, a 5 h5 _ h.tr, a _ hM _ h.m, a _ hN _ h.n, h.lm⟩
theorem TI.app {st : St} {t : Told} (h : TI st t) (g : St) : TI (st ++ g) t := h.keep (Agree.app st g) (by simp) (by simp) (by simp) (by simp) (by simp) (by simp) (by simp)
theorem TI.ne {st : St} {t : Told} (h : TI st t) : t.N ≠ 1 ∧ t.N ≠ 2 ∧ t.N ≠ 3 ∧ t.N ≠ 4 ∧ t.N ≠ 5 ∧ t.N ≠ t.M := by
  refine ⟨?_, ?_, ?_, ?_, ?_, ?_⟩ <;> intro z <;> have := h.n <;> rw [z] at this
  · rw [h.a] at this; cases this
  · rw [h.i] at this; cases this
  · rw [h.d] at this; cases this
  · rw [h.f] at this; cases this
  · rw [h.tr] at this; cases this
  · rw [h.m] at this; cases this
theorem get_set_ne {st : St} {i j : Nat} {o o' : PObj} (h : st[i]? = some o) (hn : j ≠ i) : (st.set j o')[i]? = some o := by rw [List.getElem?_set_ne hn]; exact h
theorem get_set_eq {st : St} {i : Nat} {o o' : PObj} (h : st[i]? = some o) : (st.set i o')[i]? = some o' := List.getElem?_set_self (List.getElem?_eq_some_iff.mp h).1
theorem lt_of_get {st : St} {i : Nat} {o : PObj} (h : st[i]? = some o) : i < st.length := (List.getElem?_eq_some_iff.mp h).1
theorem TI.seta {st : St} {t : Told} (h : TI st t) (t' : Told) (hL : t'.L = t.L) (hF : t'.F = t.F) (hT : t'.T = t.T) (hm : st[t'.M]? = some (.list (t'.ms.map natD))) (hn : st[t'.N]? = some (.idict t'.ks)) (lm : 5 < t'.M) : TI (st.set 1 (.sdict (attrs t'))) t' :=
  ⟨get_set_eq h.a, get_set_ne h.i (by decide), by rw [hL]; exact get_set_ne h.d (by decide), by rw [hF]; exact get_set_ne h.f (by decide), by rw [hT]; exact get_set_ne h.tr (by decide), get_set_ne hm (by omega), get_set_ne hn (fun z => by rw [← z, h.a] at hn; cases hn), lm⟩
theorem attr_of {a : PE} {k : Nat} {vs : Vars} {st st1 : St} {t : Told} {v : PV} (h : a vs st = some (.ref 2, st1)) (ht : TI st1 t) (h3 : (attrs t).lookup k = some v) : eAttr a k vs st = some (v, st1) := by
  unfold eAttr attrsOf; rw [h, Option.bind_some]; dsimp only; rw [ht.i]; dsimp only; rw [ht.a]; dsimp only [Option.bind_some]; rw [h3]; rfl
theorem meth_of {f : PF} {o : PE} {es : List PE} {vs : Vars} {st st1 : St} {t : Told} {ps : List PV} {res : Option (PV × St)} (h : o vs st = some (.ref 2, st)) (ht : TI st t) (h2 : eSeq es vs st = some (ps, st1)) (h3 : f (.ref 2 :: ps) st1 = res) : eMeth f o es vs st = res := by
  unfold eMeth attrsOf; rw [h, Option.bind_some]; dsimp only; rw [ht.i]; dsimp only; rw [ht.a]; dsimp only [Option.bind_some]
  rw [if_pos (by rfl), h2, Option.bind_some]; exact h3
theorem attrSet_of {o e : PE} {k : Nat} {vs : Vars} {st st1 st2 : St} {t : Told} (t' : Told) {v : PV} (h : e vs st = some (v, st1)) (h2 : o vs st1 = some (.ref 2, st2)) (ht : TI st2 t) (he : setKey (attrs t) k v = attrs t') : sAttrSet o k e vs st = some (.next, vs, st2.set 1 (.sdict (attrs t'))) := by
  unfold sAttrSet attrsOf; rw [h, Option.bind_some]; dsimp only; rw [h2, Option.bind_some]; dsimp only; rw [ht.i]; dsimp only; rw [ht.a]; dsimp only [Option.bind_some]
  rw [if_pos (by rfl), he]
noncomputable def Good (L : List (List Int)) : Prop := L.length ≤ 3 ∧ ∀ l ∈ L, l.Sublist win ∧ l ≠ []
theorem Good.at {L : List (List Int)} (h : Good L) {x : Nat} {l : List Int} (hx : L[x]? = some l) : l.Sublist win ∧ l ≠ [] := h.2 l (List.mem_of_getElem? hx)
theorem item_domL {L : List (List Int)} {x : Nat} {l : List Int} (h : L[x]? = some l) (hL : L.length ≤ 100) : dItem (.list (L.map domL)) (.int (x : Int)) = some (dom (rangesM l)) := item_list (by rw [List.getElem?_map, h]; rfl) (by simp; omega)
noncomputable def domE : PE := eOp2 dItem (eAttr (eVar 13) 36) (eVar 10)
theorem domE_of {vs : Vars} {st : St} {t : Told} {x : Nat} {l : List Int} (ht : TI st t) (hG : Good t.L) (hx : t.L[x]? = some l) (h13 : vs 13 = some (.ref 2)) (h10 : vs 10 = some (.d (.int (x : Int)))) : domE vs st = some (.d (dom (rangesM l)), st) :=
  op2_of (attr_of (var_of h13) ht rfl) (var_of h10) (by dsimp only [rd]; rw [ht.d]) rfl (item_domL hx (by have := hG.1; omega))
theorem m_dom_eq {st : St} {t : Told} {x : Nat} {l : List Int} (ht : TI st t) (hG : Good t.L) (hx : t.L[x]? = some l) : m_dom [.ref 2, .d (.int (x : Int))] st = some (.d (domL l), st) :=
  run_ret rfl (q_ret (domE_of ht hG hx rfl rfl))
theorem m_initial_eq {st : St} {t : Told} {x : Nat} {l : List Int} (ht : TI st t) (hG : Good t.F) (hx : t.F[x]? = some l) : m_initial [.ref 2, .d (.int (x : Int))] st = some (.d (domL l), st) :=
  run_ret rfl (q_ret (op2_of (attr_of (var_of rfl) ht rfl) (var_of rfl) (by dsimp only [rd]; rw [ht.f]) rfl (item_domL hx (by have := hG.1; omega))))
theorem ranges_cons {l : List Int} (hs : l.Sublist win) (hn : l ≠ []) : ∃ p D, rangesM l = p :: D := by
  have := (win1 hs hn).1
  cases h : rangesM l with
  | nil => rw [h] at this; cases l with | nil => exact absurd rfl hn | cons a l => cases this
  | cons p D => exact ⟨p, D, rfl⟩
theorem m_low_eq {st : St} {t : Told} {x : Nat} {a : Int} {l : List Int} (ht : TI st t) (hG : Good t.L) (hx : t.L[x]? = some (a :: l)) : m_low [.ref 2, .d (.int (x : Int))] st = some (.d (.int a), st) := by
  obtain ⟨hs, hn⟩ := hG.at hx
  obtain ⟨p, D, e⟩ := ranges_cons hs hn
  have h1 := (win1 hs hn).1
  have h5 := (win5 hs).1
  rw [e] at h1 h5
  have hp : p.1 = a := by simpa using h1
  refine run_ret rfl (q_ret (call_of (seq_cons (domE_of ht hG hx rfl rfl) seq_nil) ?_))
  rw [e, ← hp]; exact least_eq (by omega) st
theorem m_high_eq {st : St} {t : Told} {x : Nat} {a : Int} {l : List Int} (ht : TI st t) (hG : Good t.L) (hx : t.L[x]? = some l) (ha : l.getLast? = some a) : m_high [.ref 2, .d (.int (x : Int))] st = some (.d (.int a), st) := by
  obtain ⟨hs, hn⟩ := hG.at hx
  have h1 := (win1 hs hn).2.1
  have h5 := (win5 hs).1
  rw [ha] at h1
  cases e : (rangesM l).getLast? with
  | none => rw [e] at h1; cases h1
  | some q =>
    rw [e] at h1
    have hq : q.2 = a := by simpa using h1
    rw [← hq]
    exact run_ret rfl (q_ret (call_of (seq_cons (domE_of ht hG hx rfl rfl) seq_nil) (greatest_eq e (by omega) st)))
theorem m_width_eq {st : St} {t : Told} {x : Nat} {l : List Int} (ht : TI st t) (hG : Good t.L) (hx : t.L[x]? = some l) : m_width [.ref 2, .d (.int (x : Int))] st = some (.d (.int l.length), st) := by
  obtain ⟨hs, hn⟩ := hG.at hx
  have h1 := (win1 hs hn).2.2
  have h5 := (win5 hs).1
  rw [← h1]
  exact run_ret rfl (q_ret (call_of (seq_cons (domE_of ht hG hx rfl rfl) seq_nil) (size_eq (by omega) st)))
theorem m_has_eq {st : St} {t : Told} {x : Nat} {l : List Int} {v : Int} (ht : TI st t) (hG : Good t.L) (hx : t.L[x]? = some l) : m_has [.ref 2, .d (.int (x : Int)), .d (.int v)] st = some (.d (.bool (nextM (rangesM l) v == some v)), st) := by
  obtain ⟨hs, hn⟩ := hG.at hx
  have h5 := (win5 hs).1
  exact run_ret rfl (q_ret (call_of (seq_cons (domE_of ht hG hx rfl rfl) (seq_cons (var_of rfl) seq_nil)) (has_eq (by omega) st)))
theorem m_value_eq {st : St} {t : Told} {x : Nat} {a : Int} {l : List Int} (ht : TI st t) (hG : Good t.L) (hx : t.L[x]? = some (a :: l)) : m_value [.ref 2, .d (.int (x : Int))] st = some (.d (.int a), st) := by
  obtain ⟨hs, hn⟩ := hG.at hx
  obtain ⟨p, D, e⟩ := ranges_cons hs hn
  have h1 := (win1 hs hn).1
  have h5 := (win5 hs).1
  rw [e] at h1 h5
  have hp : p.1 = a := by simpa using h1
  refine run_ret rfl (q_ret (op2_of (op2_of (domE_of ht hG hx rfl rfl) rfl rfl rfl (z := pr p) ?_) rfl rfl rfl ?_))
  · rw [e]; exact item_dom0 (by omega)
  · rw [← hp]; exact item_lo p
theorem eand_of {a b : PE} {vs : Vars} {st st1 st2 : St} {x y : Bool} (h : a vs st = some (.d (.bool x), st1)) (h2 : x = true → b vs st1 = some (.d (.bool y), st2)) (h3 : x = false → st2 = st1) : eAnd a b vs st = some (.d (.bool (x && y)), st2) := by
  unfold eAnd; rw [h, Option.bind_some]; dsimp only
  cases x with
  | true => rw [if_pos rfl, h2 rfl]; rfl
  | false => rw [if_neg (by simp), h3 rfl]; rfl
theorem m_fixed_eq {st : St} {t : Told} {x : Nat} {l : List Int} (ht : TI st t) (hG : Good t.L) (hx : t.L[x]? = some l) : m_is_fixed [.ref 2, .d (.int (x : Int))] st = some (.d (.bool (l.length == 1)), st) := by
  obtain ⟨hs, hn⟩ := hG.at hx
  obtain ⟨p, D, e⟩ := ranges_cons hs hn
  have h4 := win4 hs
  have h5 := (win5 hs).1
  have hd := domE_of (vs := upd (upd (fun _ => none) 10 (.d (.int (x : Int)))) 13 (.ref 2)) ht hG hx rfl rfl
  rw [e] at hd h4 h5
  have i0 : dItem (dom (p :: D)) (.int 0) = some (pr p) := item_dom0 (by omega)
  let vs1 : Vars := upd (upd (upd (fun _ => none) 10 (.d (.int (x : Int)))) 13 (.ref 2)) 14 (.d (dom (p :: D)))
  have eI : eOp2 dItem (eVar 14) (eD (.int 0)) vs1 st = some (.d (pr p), st) := op2_of (var_of rfl) rfl rfl rfl i0
  have e0 : eOp2 dItem (eOp2 dItem (eVar 14) (eD (.int 0))) (eD (.int 0)) vs1 st = some (.d (.int p.1), st) := op2_of eI rfl rfl rfl (item_lo p)
  have e1 : eOp2 dItem (eOp2 dItem (eVar 14) (eD (.int 0))) (eD (.int 1)) vs1 st = some (.d (.int p.2), st) := op2_of eI rfl rfl rfl (item_hi p)
  have hl : dLen (dom (p :: D)) = some (.int ((p :: D).length : Int)) := by unfold dom; rw [len_tuple (by rw [List.length_map]; omega), List.length_map]
  have r := eand_of (op2_of (f := dB qEq) (op1_of (var_of (vs := vs1) (k := 14) rfl) (st1 := st) rfl hl) (b := eD (.int 1)) rfl rfl rfl (z := .bool (((p :: D).length : Int) == 1)) (by unfold dB; rw [qEq_ints]; rfl)) (fun _ => op2_of (f := dB qEq) e0 e1 rfl rfl (z := .bool (p.1 == p.2)) (by unfold dB; rw [qEq_ints]; rfl)) (fun _ => rfl)
  have he : ((((p :: D).length : Int) == 1) && (p.1 == p.2)) = (l.length == 1) := by
    rw [← h4]
    cases D with
    | nil => simp
    | cons q D =>
      show ((((p :: q :: D).length : Int) == 1) && (p.1 == p.2)) = false
      have : (((p :: q :: D).length : Int) == 1) = false := beq_eq_false_iff_ne.mpr (by simp only [List.length_cons]; omega)
      rw [this]; rfl
  rw [he] at r
  exact run_ret rfl (q_assign hd (q_ret r))
theorem m_size_eq {st : St} {t : Told} (ht : TI st t) (hG : Good t.L) : m_size [.ref 2] st = some (.d (.int t.L.length), st) := by
  refine run_ret rfl (q_ret (op1_of (attr_of (var_of rfl) ht rfl) (by dsimp only [rd]; rw [ht.d]) ?_))
  rw [len_list (by rw [List.length_map]; have := hG.1; omega), List.length_map]
theorem m_depth_eq {st : St} {t : Told} (ht : TI st t) (hm : t.ms.length ≤ 100) : m_depth [.ref 2] st = some (.d (.int t.ms.length), st) := by
  refine run_ret rfl (q_ret (op1_of (attr_of (var_of rfl) ht rfl) (by dsimp only [rd]; rw [ht.m]) ?_))
  rw [len_list (by rw [List.length_map]; omega), List.length_map]
theorem m_holds_eq {st : St} {t : Told} {x : Nat} {l : List Int} {s : Sg} {k : Int} (ht : TI st t) (hG : Good t.L) (hx : t.L[x]? = some l) (hk : k ∈ kList) : ∃ g, m_holds [.ref 2, .d (litD x s k)] st = some (.d (.int (saidL s k l)), st ++ g) := by
  obtain ⟨hs, hn⟩ := hG.at hx
  have h5 := (win5 hs).1
  obtain ⟨g, e⟩ := said_eq (x := x) (s := s) (k := k) (D := rangesM l) (by omega) st
  rw [saidL_M hs hk] at e
  refine ⟨g, run_ret rfl (q_ret (call_of (seq_cons (var_of rfl) (seq_cons (op2_of (attr_of (var_of rfl) ht rfl) (op2_of (var_of rfl) rfl rfl rfl (lit_x x s k)) (by dsimp only [rd]; rw [ht.d]) rfl (item_domL hx (by have := hG.1; omega))) seq_nil)) e))⟩
end Mine.Pure
end
section
set_option maxRecDepth 100000
namespace Mine.Pure
open PySem
theorem fail_eq {st : St} {t : Told} {r : PyData} {xs : List PyData} (h : TI st t) (hr : dTuple r = some (.tuple xs)) :
    ∃ st', m_fail [.ref 2, .d r] st = some (.d (.bool false), st') ∧ TI st' { t with failed := true, clash := .tuple xs } ∧ Agree [1] st st' := by
  have h1 := h.seta { t with failed := true } rfl rfl rfl h.m h.n h.lm
  have h2 := h1.seta { t with failed := true, clash := .tuple xs } rfl rfl rfl h1.m h1.n h1.lm
  exact ⟨_, run_ret rfl (q_step (attrSet_of { t with failed := true } rfl (var_of rfl) h rfl) (q_step (attrSet_of { t with failed := true, clash := .tuple xs } (op1_of (var_of rfl) rfl hr) (var_of rfl) h1 rfl) (q_ret rfl))), h2, (Agree.set _ 1 _).trans (Agree.set _ 1 _)⟩
noncomputable def putK (ks : List Int) (x : Int) : List Int := if ks.contains x then ks else ks ++ [x]
noncomputable def clashOf (rs : Option (List PyData)) (x : Nat) (s : Sg) (k : Int) : List PyData := rs.getD [] ++ [negD x s k]
noncomputable def Told.enter (t : Told) (x : Nat) (s : Sg) (k : Int) (rs : Option (List PyData)) (spk : Int) (l : List Int) : Told :=
  if l.filter (keepsM s k) == [] then { t with failed := true, clash := .tuple (clashOf rs x s k) }
  else if l.filter (keepsM s k) == l then t
  else { t with T := t.T ++ [⟨x, l, s, k, rs, spk⟩], L := t.L.set x (l.filter (keepsM s k)), ks := putK t.ks x }
theorem append_attr {o e : PE} {vs : Vars} {st : St} {i : Nat} {xs : List PyData} {y : PyData} (h : o vs st = some (.ref i, st)) (h2 : e vs st = some (.d y, st)) (h3 : st[i]? = some (.list xs)) (hl : xs.length ≤ 1000000) : sExpr (eAppend o e) vs st = some (.next, vs, st.set i (.list (xs ++ [y]))) := by
  unfold sExpr; rw [append_of h h2 h3 h3 hl]; rfl
theorem itemSetK_of {o i e : PE} {vs : Vars} {st st1 st2 st3 : St} {h : Nat} {y : PyData} {n : Int} {ks : List Int} (h1 : e vs st = some (.d y, st1)) (h2 : o vs st1 = some (.ref h, st2)) (h3 : i vs st2 = some (.d (.int n), st3)) (h4 : st3[h]? = some (.idict ks)) (hs : small n = true) (hl : ks.length ≤ 1000000) :
    sItemSet o i e vs st = some (.next, vs, st3.set h (.idict (putK ks n))) := by
  unfold sItemSet
  rw [h1, Option.bind_some]; dsimp only; rw [h2, Option.bind_some]; dsimp only; rw [h3, Option.bind_some]; dsimp only; rw [h4]; dsimp only
  rw [if_pos (by rw [hs, szOk_of hl]; rfl)]; rfl
theorem tuple5_of {a b c d e : PE} {vs : Vars} {st : St} {x y z u w : PyData} (h : a vs st = some (.d x, st)) (h2 : b vs st = some (.d y, st)) (h3 : c vs st = some (.d z, st)) (h4 : d vs st = some (.d u, st)) (h5 : e vs st = some (.d w, st)) : eTup [a, b, c, d, e] vs st = some (.d (.tuple [x, y, z, u, w]), st) :=
  tup_of (seq_cons h (seq_cons h2 (seq_cons h3 (seq_cons h4 (seq_cons h5 seq_nil))))) rfl
theorem map_set_domL (L : List (List Int)) (x : Nat) (l : List Int) : (L.map domL).set x (domL l) = (L.set x l).map domL := by rw [List.map_set]
theorem TI.enter {st : St} {t : Told} {x : Nat} {l : List Int} {e : En} {ks : List Int} (h : TI st t) : TI (((st.set 5 (.list (t.T.map En.D ++ [e.D]))).set 3 (.list ((t.L.map domL).set x (domL l)))).set t.N (.idict ks)) { t with T := t.T ++ [e], L := t.L.set x l, ks := ks } := by
  obtain ⟨n1, n2, n3, n4, n5, nM⟩ := h.ne
  have lm := h.lm
  have m5 : 5 ≠ t.M := by omega
  have m3 : 3 ≠ t.M := by omega
  have h3 : ((st.set 5 (.list (t.T.map En.D ++ [e.D]))).set 3 (.list ((t.L.map domL).set x (domL l))))[3]? = some (.list ((t.L.map domL).set x (domL l))) := get_set_eq (get_set_ne h.d (by decide))
  refine ⟨get_set_ne (get_set_ne (get_set_ne h.a (by decide)) (by decide)) n1, get_set_ne (get_set_ne (get_set_ne h.i (by decide)) (by decide)) n2, ?_, get_set_ne (get_set_ne (get_set_ne h.f (by decide)) (by decide)) n4, ?_, get_set_ne (get_set_ne (get_set_ne h.m m5) m3) nM, get_set_eq (get_set_ne (get_set_ne h.n (Ne.symm n5)) (Ne.symm n3)), lm⟩
  · rw [get_set_ne h3 n3, map_set_domL]
  · refine (get_set_ne (get_set_ne (get_set_eq h.tr) (by decide)) n5).trans ?_
    rw [List.map_append]; rfl
theorem enter_eq {st : St} {t : Told} {x : Nat} {s : Sg} {k : Int} {rs : Option (List PyData)} {spk : Int} {l : List Int} (h : TI st t) (hG : Good t.L) (hx : t.L[x]? = some l) (hk : k ∈ kList) (hT : t.T.length ≤ 100) (hks : t.ks.length ≤ 100) (hrs : (rs.getD []).length ≤ 100) :
    ∃ st', m_enter [.ref 2, .d (litD x s k), .d (rsD rs), .d (.int spk)] st = some (.d (.bool (!(l.filter (keepsM s k) == []))), st') ∧ TI st' (t.enter x s k rs spk l) ∧ Agree [1, 3, 5, t.N] st st' := by
  obtain ⟨hs, hn⟩ := hG.at hx
  have h5 := (win5 hs).1
  have hL := hG.1
  have hxlt : x < t.L.length := (List.getElem?_eq_some_iff.mp hx).1
  obtain ⟨w1, w2, w3⟩ := win3 hs hk s
  obtain ⟨g, eg⟩ := struck_eq (x := x) (s := s) (k := k) (D := rangesM l) (by omega) st
  rw [w1] at eg
  have h1 : TI (st ++ g) t := h.app g
  let vs0 : Vars := upd (upd (upd (upd (fun _ => none) 16 (.d (.int spk))) 15 (.d (rsD rs))) 9 (.d (litD x s k))) 13 (.ref 2)
  let vs1 : Vars := upd vs0 10 (.d (.int (x : Int)))
  let vs2 : Vars := upd vs1 17 (.d (domL l))
  let vs3 : Vars := upd vs2 18 (.d (domL (l.filter (keepsM s k))))
  have a1 : sAssign 10 (eOp2 dItem (eVar 9) (eD (.int 0))) vs0 st = some (.next, vs1, st) := by
    unfold sAssign; rw [op2_of (var_of (show vs0 9 = _ from rfl)) rfl rfl rfl (lit_x x s k)]; rfl
  have a2 : sAssign 17 (eOp2 dItem (eAttr (eVar 13) 36) (eVar 10)) vs1 st = some (.next, vs2, st) := by
    unfold sAssign
    have := domE_of (vs := vs1) h hG hx rfl rfl
    unfold domE at this
    rw [this]; rfl
  have a3 : sAssign 18 (eCall f_struck [eVar 9, eVar 17]) vs2 st = some (.next, vs3, st ++ g) := by
    unfold sAssign
    rw [call_of (seq_cons (var_of rfl) (seq_cons (var_of rfl) seq_nil)) eg]; rfl
  have tA := t2_of (f := qEq) (a := eVar 18) (b := eTup []) (vs := vs3) (st := st ++ g) (y := dom []) (var_of rfl) (tup_of seq_nil rfl) rfl rfl (qEq_dom (rangesM (l.filter (keepsM s k))) [])
  have tB := t2_of (f := qEq) (a := eVar 18) (b := eVar 17) (vs := vs3) (st := st ++ g) (var_of rfl) (var_of rfl) rfl rfl (qEq_dom (rangesM (l.filter (keepsM s k))) (rangesM l))
  rw [w3] at tA
  rw [w2] at tB
  have ag : Agree [] st (st ++ g) := Agree.app st g
  unfold Told.enter
  cases c1 : l.filter (keepsM s k) == [] with
  | true =>
    rw [if_pos rfl]
    rw [c1] at tA
    obtain ⟨st', e1, e2, e3⟩ := fail_eq (r := .tuple (clashOf rs x s k)) h1 rfl
    refine ⟨st', ?_, e2, (ag.mono (by simp)).trans (e3.mono (by simp))⟩
    refine run_ret rfl (q_step a1 (q_step a2 (q_step a3 (q_stop (if_true tA (q_ret (meth_of (var_of rfl) h1 (seq_cons (op2_of (x := .tuple (rs.getD [])) (y := .tuple [negD x s k]) (z := .tuple (clashOf rs x s k)) (p := .d (.tuple (rs.getD []))) ?_ (tup_of (seq_cons (call_of (seq_cons (var_of rfl) seq_nil) (negation_eq x s k _)) seq_nil) rfl) rfl rfl ?_) seq_nil) e1)))))))
    · cases rs with
      | none => exact eif_true (t2_of (var_of rfl) rfl rfl rfl rfl) (tup_of seq_nil rfl)
      | some r => exact eif_false (t2_of (var_of rfl) rfl rfl rfl rfl) (var_of rfl)
    · dsimp only [dAdd]
      rw [if_pos (szOk_of (by simp; omega))]; rfl
  | false =>
    rw [if_neg (by simp)]
    rw [c1] at tA
    cases c2 : l.filter (keepsM s k) == l with
    | true =>
      rw [if_pos rfl]
      rw [c2] at tB
      exact ⟨st ++ g, run_ret rfl (q_step a1 (q_step a2 (q_step a3 (q_skip tA (q_stop (if_true tB (q_ret rfl))))))), h1, ag.mono (by simp)⟩
    | false =>
      rw [if_neg (by simp)]
      rw [c2] at tB
      obtain ⟨n1, n2, n3, n4, n5, nM⟩ := h1.ne
      have m5 : 5 ≠ t.M := by have := h1.lm; omega
      have m3 : 3 ≠ t.M := by have := h1.lm; omega
      have b1 := append_attr (o := eAttr (eVar 13) 37) (e := eTup [eVar 10, eVar 17, eVar 9, eVar 15, eVar 16]) (vs := vs3) (y := En.D ⟨x, l, s, k, rs, spk⟩) (attr_of (var_of rfl) h1 rfl) (tuple5_of (var_of rfl) (var_of rfl) (var_of rfl) (var_of rfl) (var_of rfl)) h1.tr (by rw [List.length_map]; omega)
      have h2 : ((st ++ g).set 5 (.list (t.T.map En.D ++ [En.D ⟨x, l, s, k, rs, spk⟩])))[1]? = some (.sdict (attrs t)) := get_set_ne h1.a (by decide)
      have t2 : TI ((st ++ g).set 5 (.list (t.T.map En.D ++ [En.D ⟨x, l, s, k, rs, spk⟩]))) { t with T := t.T ++ [⟨x, l, s, k, rs, spk⟩] } :=
        ⟨h2, get_set_ne h1.i (by decide), get_set_ne h1.d (by decide), get_set_ne h1.f (by decide), by rw [get_set_eq h1.tr, List.map_append]; rfl, get_set_ne h1.m m5, get_set_ne h1.n (Ne.symm n5), h1.lm⟩
      have b2 := itemSet_of (e := eVar 18) (o := eAttr (eVar 13) 36) (i := eVar 10) (vs := vs3) (y := domL (l.filter (keepsM s k))) (j := x) (var_of rfl) (attr_of (var_of rfl) t2 rfl) (var_of rfl) t2.d (small_of (by omega) (by omega)) (by rw [List.length_map]; show t.L.length ≤ _; omega) (idx_nat (by rw [List.length_map]; exact hxlt))
      have t3 : TI (((st ++ g).set 5 (.list (t.T.map En.D ++ [En.D ⟨x, l, s, k, rs, spk⟩]))).set 3 (.list ((t.L.map domL).set x (domL (l.filter (keepsM s k)))))) { t with T := t.T ++ [⟨x, l, s, k, rs, spk⟩], L := t.L.set x (l.filter (keepsM s k)) } :=
        ⟨get_set_ne t2.a (by decide), get_set_ne t2.i (by decide), by rw [get_set_eq t2.d, map_set_domL], get_set_ne t2.f (by decide), get_set_ne t2.tr (by decide), get_set_ne t2.m m3, get_set_ne t2.n (Ne.symm n3), t2.lm⟩
      have b3 := itemSetK_of (e := eD (.bool true)) (o := eAttr (eVar 13) 39) (i := eVar 10) (vs := vs3) rfl (attr_of (var_of rfl) t3 rfl) (var_of rfl) t3.n (small_of (by omega) (by omega)) (by show t.ks.length ≤ _; omega)
      refine ⟨_, run_ret rfl (q_step a1 (q_step a2 (q_step a3 (q_skip tA (q_skip tB (q_step b1 (q_step b2 (q_step b3 (q_ret rfl))))))))), h1.enter (e := ⟨x, l, s, k, rs, spk⟩), ?_⟩
      exact (((ag.mono (by simp)).trans ((Agree.set _ 5 _).mono (by simp))).trans ((Agree.set _ 3 _).mono (by simp))).trans ((Agree.set _ t.N _).mono (by simp))
theorem strike_eq {st : St} {t : Told} {x : Nat} {s : Sg} {k : Int} {rs : List PyData} {l : List Int} (h : TI st t) (hG : Good t.L) (hx : t.L[x]? = some l) (hk : k ∈ kList) (hT : t.T.length ≤ 100) (hks : t.ks.length ≤ 100) (hrs : rs.length ≤ 100) :
    ∃ st', m_strike [.ref 2, .d (litD x s k), .d (.list rs)] st = some (.d (.bool (!(l.filter (keepsM s k) == []))), st') ∧ TI st' (t.enter x s k (some rs) t.spk l) ∧ Agree [1, 3, 5, t.N] st st' := by
  obtain ⟨st', e1, e2, e3⟩ := enter_eq (s := s) (rs := some rs) (spk := t.spk) h hG hx hk hT hks hrs
  refine ⟨st', run_ret rfl (q_ret (meth_of (var_of rfl) h (seq_cons (var_of rfl) (seq_cons (op1_of (y := .tuple rs) (var_of rfl) rfl ?_) (seq_cons (attr_of (var_of rfl) h rfl) seq_nil))) e1)), e2, e3⟩
  dsimp only [dTuple]; rw [if_pos (szOk_of (by omega))]
theorem decide_eq {st : St} {t : Told} {x : Nat} {s : Sg} {k : Int} {l : List Int} (h : TI st t) (hG : Good t.L) (hx : t.L[x]? = some l) (hk : k ∈ kList) (hT : t.T.length ≤ 100) (hks : t.ks.length ≤ 100) :
    ∃ st', m_decide [.ref 2, .d (litD x s k)] st = some (.d (.bool (!(l.filter (keepsM s k) == []))), st') ∧ TI st' (t.enter x s k none (-1) l) ∧ Agree [1, 3, 5, t.N] st st' := by
  obtain ⟨st', e1, e2, e3⟩ := enter_eq (s := s) (rs := none) (spk := -1) h hG hx hk hT hks (by simp)
  exact ⟨st', run_ret rfl (q_ret (meth_of (var_of rfl) h (seq_cons (var_of rfl) (seq_cons rfl (seq_cons (op1_of rfl rfl rfl) seq_nil))) e1)), e2, e3⟩
theorem push_eq {st : St} {t : Told} (h : TI st t) (hT : t.T.length ≤ 100) (hm : t.ms.length ≤ 100) :
    ∃ st', m_push [.ref 2] st = some (.d .none, st') ∧ TI st' { t with ms := t.ms ++ [t.T.length] } ∧ Agree [t.M] st st' := by
  obtain ⟨n1, n2, n3, n4, n5, nM⟩ := h.ne
  have lm := h.lm
  have b := append_attr (o := eAttr (eVar 13) 38) (e := eOp1 dLen (eAttr (eVar 13) 37)) (vs := upd (fun _ => none) 13 (.ref 2)) (y := natD t.T.length) (attr_of (var_of rfl) h rfl) (op1_of (attr_of (var_of rfl) h rfl) (by dsimp only [rd]; rw [h.tr]) (by rw [len_list (by rw [List.length_map]; omega), List.length_map]; rfl)) h.m (by rw [List.length_map]; omega)
  refine ⟨_, run_next rfl (q_step b q_nil), ⟨get_set_ne h.a (by omega), get_set_ne h.i (by omega), get_set_ne h.d (by omega), get_set_ne h.f (by omega), get_set_ne h.tr (by omega), ?_, get_set_ne h.n (Ne.symm nM), lm⟩, Agree.set _ _ _⟩
  rw [get_set_eq h.m, List.map_append]; rfl
theorem changed_eq {st : St} {t : Told} (h : TI st t) (hks : t.ks.length < 64) :
    ∃ st', m_changed [.ref 2] st = some (.d (ilist (isort t.ks)), st') ∧ TI st' { t with N := st.length, ks := [] } ∧ Agree [1] st st' := by
  have e1 : eSortedKeys (eAttr (eVar 13) 39) (upd (fun _ => none) 13 (.ref 2)) st = some (.d (ilist (isort t.ks)), st) := by
    unfold eSortedKeys
    rw [attr_of (vs := upd (fun _ => none) 13 (.ref 2)) (var_of rfl) h rfl, Option.bind_some]
    dsimp only
    rw [h.n]
    dsimp only
    rw [if_pos (by simpa using hks)]; rfl
  have h1 := h.app [.idict []]
  have h2 := h1.seta { t with N := st.length, ks := [] } rfl rfl rfl h1.m (last_get _ _) h1.lm
  exact ⟨_, run_ret rfl (q_assign e1 (q_step (attrSet_of { t with N := st.length, ks := [] } (v := .ref st.length) rfl (var_of rfl) h1 rfl) (q_ret rfl))), h2, ((Agree.app st _).mono (by simp)).trans (Agree.set _ 1 _)⟩
end Mine.Pure
end
section
set_option maxRecDepth 100000
namespace Mine.Pure
open PySem
noncomputable def undoR (B : List En) (L : List (List Int)) : List (List Int) := B.foldl (fun L e => L.set e.x e.old) L
theorem undoR_len : ∀ (B : List En) (L : List (List Int)), (undoR B L).length = L.length
  | [], _ => rfl
  | e :: B, L => by
    show (undoR B (L.set e.x e.old)).length = _
    rw [undoR_len B, List.length_set]
noncomputable def popT : PT := tOp2 qGt (eOp1 dLen (eAttr (eVar 13) 37)) (eVar 20)
noncomputable def popB : List PS := [sAssign 21 (ePop (eAttr (eVar 13) 37)), sItemSet (eAttr (eVar 13) 36) (eOp2 dItem (eVar 21) (eD (.int 0))) (eOp2 dItem (eVar 21) (eD (.int 1)))]
theorem pop_of {o : PE} {vs : Vars} {st st1 : St} {i : Nat} {xs : List PyData} {y : PyData} (h : o vs st = some (.ref i, st1)) (h2 : st1[i]? = some (.list xs)) (h3 : xs.getLast? = some y) (hl : xs.length ≤ 1000000) : ePop o vs st = some (.d y, st1.set i (.list xs.dropLast)) := by
  unfold ePop; rw [h, Option.bind_some]; dsimp only; rw [h2]; dsimp only; rw [if_pos (szOk_of hl), h3]; rfl
theorem en_x (e : En) : dItem e.D (.int 0) = some (.int e.x) := item_tuple (k := 0) rfl (by simp)
theorem en_old (e : En) : dItem e.D (.int 1) = some (domL e.old) := item_tuple (k := 1) rfl (by simp)
theorem TI.unT {st : St} {t : Told} {T : List En} (h : TI st t) : TI (st.set 5 (.list (T.map En.D))) { t with T := T } :=
  have m5 : 5 ≠ t.M := by have := h.lm; omega
  ⟨get_set_ne h.a (by decide), get_set_ne h.i (by decide), get_set_ne h.d (by decide), get_set_ne h.f (by decide), get_set_eq h.tr, get_set_ne h.m m5, get_set_ne h.n (Ne.symm h.ne.2.2.2.2.1), h.lm⟩
theorem TI.setL {st : St} {t : Told} {x : Nat} {l : List Int} (h : TI st t) : TI (st.set 3 (.list ((t.L.map domL).set x (domL l)))) { t with L := t.L.set x l } :=
  have m3 : 3 ≠ t.M := by have := h.lm; omega
  ⟨get_set_ne h.a (by decide), get_set_ne h.i (by decide), by rw [get_set_eq h.d, map_set_domL], get_set_ne h.f (by decide), get_set_ne h.tr (by decide), get_set_ne h.m m3, get_set_ne h.n (Ne.symm h.ne.2.2.1), h.lm⟩
theorem pop_loop {A : List En} : ∀ (B : List En) (f : Nat) (t : Told) (st : St) (vs : Vars), TI st t → t.T = A ++ B.reverse → (∀ e ∈ B, e.x < t.L.length) → B.length < f → t.T.length ≤ 100 → t.L.length ≤ 100 → vs 13 = some (.ref 2) → vs 20 = some (.d (.int (A.length : Int))) →
    ∃ st' vs', whileN popT (sSeq popB) f vs st = some (.next, vs', st') ∧ vs' 13 = some (.ref 2) ∧ TI st' { t with T := A, L := undoR B t.L } ∧ Agree [3, 5] st st'
  | _, 0, _, _, _, _, _, _, hf, _, _, _, _ => absurd hf (Nat.not_lt_zero _)
  | B, f + 1, t, st, vs, h, hT, hx, hf, hl, hL, h13, h20 => by
    have hlen : eOp1 dLen (eAttr (eVar 13) 37) vs st = some (.d (.int (t.T.length : Int)), st) := op1_of (attr_of (var_of h13) h rfl) (by dsimp only [rd]; rw [h.tr]) (by rw [len_list (by rw [List.length_map]; omega), List.length_map])
    have ht : popT vs st = some (decide ((A.length : Int) < (t.T.length : Int)), st) := t2_of hlen (var_of h20) rfl rfl rfl
    cases B with
    | nil =>
      have e : t.T = A := by rw [hT]; simp
      rw [e, decide_eq_false (by omega)] at ht
      refine ⟨st, vs, while_stop ht, h13, ?_, (Agree.refl [] st).mono (by simp)⟩
      have := h.unT (T := A)
      rw [← e] at this ⊢
      exact h
    | cons e B =>
      have e1 : t.T = (A ++ B.reverse) ++ [e] := by rw [hT]; simp
      have e2 : t.T.length = A.length + B.length + 1 := by rw [e1]; simp; omega
      simp only [List.length_cons] at hf
      rw [decide_eq_true (by omega)] at ht
      have ex := hx e List.mem_cons_self
      have p1 := pop_of (o := eAttr (eVar 13) 37) (vs := vs) (attr_of (var_of h13) h rfl) h.tr (y := e.D) (by rw [e1]; simp) (by rw [List.length_map]; omega)
      have dl : (t.T.map En.D).dropLast = (A ++ B.reverse).map En.D := by rw [e1]; simp
      rw [dl] at p1
      have h1 := h.unT (T := A ++ B.reverse)
      have a1 : sAssign 21 (ePop (eAttr (eVar 13) 37)) vs st = some (.next, upd vs 21 (.d e.D), st.set 5 (.list ((A ++ B.reverse).map En.D))) := by unfold sAssign; rw [p1]; rfl
      have g13 : upd vs 21 (.d e.D) 13 = some (.ref 2) := h13
      have a2 := itemSet_of (o := eAttr (eVar 13) 36) (i := eOp2 dItem (eVar 21) (eD (.int 0))) (e := eOp2 dItem (eVar 21) (eD (.int 1))) (vs := upd vs 21 (.d e.D)) (j := e.x) (op2_of (var_of rfl) rfl rfl rfl (en_old e)) (attr_of (var_of g13) h1 rfl) (op2_of (var_of rfl) rfl rfl rfl (en_x e)) h1.d (small_of (by omega) (by omega)) (by rw [List.length_map]; show t.L.length ≤ _; omega) (idx_nat (by rw [List.length_map]; exact ex))
      have h2 := h1.setL (x := e.x) (l := e.old)
      obtain ⟨st', vs', r1, r2, r3, r4⟩ := pop_loop (A := A) B f _ _ (upd vs 21 (.d e.D)) h2 rfl (fun e' he => by show e'.x < (t.L.set e.x e.old).length; rw [List.length_set]; exact hx e' (List.mem_cons_of_mem _ he)) (by omega) (by show (A ++ B.reverse).length ≤ 100; simp; omega) (by show (t.L.set e.x e.old).length ≤ 100; rw [List.length_set]; exact hL) g13 h20
      exact ⟨st', vs', while_step ht (q_step a1 (q_step a2 q_nil)) r1, r2, r3, (((Agree.set _ 5 _).mono (by simp)).trans ((Agree.set _ 3 _).mono (by simp))).trans r4⟩
theorem takeM_of {a b : PE} {vs : Vars} {st st1 st2 : St} {p q : PV} {xs : List PyData} {n : Nat} (h : a vs st = some (p, st1)) (h2 : b vs st1 = some (q, st2)) (hr : rd st2 p = some (.list xs)) (hq : rd st2 q = some (.int (n : Int))) (hn : n ≤ 1000000) (hl : xs.length ≤ 1000000) : eTakeM a b vs st = some (.ref st2.length, st2 ++ [.list (xs.take n)]) := by
  unfold eTakeM; rw [h, Option.bind_some]; dsimp only; rw [h2, Option.bind_some]; dsimp only; rw [hr, Option.bind_some, hq, Option.bind_some]
  dsimp only [dTake]
  rw [if_pos (by rw [szOk_of hl, small_of (by omega) (by omega)]; simp)]
  simp
theorem in_firsts {F : List (List Int)} (hG : Good F) : qIn (.tuple []) (.list (F.map domL)) = some false := by
  unfold qIn
  have hl : PyData.canLayAll0 (F.map domL) = true := (nice_all (n := 2) (by
    intro x hx
    obtain ⟨l, _, rfl⟩ := List.mem_map.mp hx
    exact nice_dom _)).1
  dsimp only
  rw [if_pos (by rw [hl]; rfl)]
  congr 1
  rw [List.any_eq_false]
  intro x hx
  obtain ⟨l, hm, rfl⟩ := List.mem_map.mp hx
  obtain ⟨hs, hn⟩ := hG.2 l hm
  obtain ⟨p, D, e⟩ := ranges_cons hs hn
  show ¬ PyData.eqv (dom (rangesM l)) (dom []) = true
  rw [eqv_dom, e]
  simp
theorem pop_eq {st : St} {t : Told} {A B : List En} {n : Nat} (h : TI st t) (hG : Good t.F) (hn : 1 ≤ n ∧ n ≤ t.ms.length) (hm : t.ms.length ≤ 100) (hT : t.T = A ++ B.reverse) (hA : t.ms[t.ms.length - n]? = some A.length) (hx : ∀ e ∈ B, e.x < t.L.length) (hl : t.T.length ≤ 100) (hL : t.L.length ≤ 100) :
    ∃ st' M N, m_pop [.ref 2, .d (.int (n : Int))] st = some (.d .none, st') ∧ TI st' { t with M := M, N := N, failed := false, clash := .tuple [], L := undoR B t.L, T := A, ms := t.ms.take (t.ms.length - n), ks := [] } ∧ Agree [1, 3, 5] st st' ∧ st.length ≤ M := by
  let vs0 : Vars := upd (upd (fun _ => none) 19 (.d (.int (n : Int)))) 13 (.ref 2)
  have hlen : eOp1 dLen (eAttr (eVar 13) 38) vs0 st = some (.d (.int (t.ms.length : Int)), st) := op1_of (attr_of (var_of rfl) h rfl) (by dsimp only [rd]; rw [h.m]) (by rw [len_list (by rw [List.length_map]; omega), List.length_map])
  have hsub : eOp2 dSub (eOp1 dLen (eAttr (eVar 13) 38)) (eVar 19) vs0 st = some (.d (.int ((t.ms.length - n : Nat) : Int)), st) := op2_of hlen (var_of rfl) rfl rfl (by rw [Int.ofNat_sub hn.2]; rfl)
  have a1 : sAssign 20 (eOp2 dItem (eAttr (eVar 13) 38) (eOp2 dSub (eOp1 dLen (eAttr (eVar 13) 38)) (eVar 19))) vs0 st = some (.next, upd vs0 20 (.d (.int (A.length : Int))), st) := by
    unfold sAssign
    rw [op2_of (z := .int (A.length : Int)) (attr_of (var_of rfl) h rfl) hsub (by dsimp only [rd]; rw [h.m]) rfl (item_list (by rw [List.getElem?_map, hA]; rfl) (by rw [List.length_map]; omega))]; rfl
  let vs1 : Vars := upd vs0 20 (.d (.int (A.length : Int)))
  have hsub1 : eOp2 dSub (eOp1 dLen (eAttr (eVar 13) 38)) (eVar 19) vs1 st = some (.d (.int ((t.ms.length - n : Nat) : Int)), st) := hsub
  have tk := takeM_of (a := eAttr (eVar 13) 38) (vs := vs1) (attr_of (var_of rfl) h rfl) hsub1 (by dsimp only [rd]; rw [h.m]) rfl (by omega) (by rw [List.length_map]; omega)
  rw [← List.map_take] at tk
  have h1 := h.app [.list ((t.ms.take (t.ms.length - n)).map natD)]
  have lM : 5 < st.length := Nat.lt_trans h.lm (lt_of_get h.m)
  have h2 := h1.seta { t with M := st.length, ms := t.ms.take (t.ms.length - n) } rfl rfl rfl (last_get _ _) h1.n lM
  have a2 := attrSet_of { t with M := st.length, ms := t.ms.take (t.ms.length - n) } tk (k := 38) (o := eVar 13) (var_of rfl) h1 rfl
  obtain ⟨st3, vs3, r1, r2, r3, r4⟩ := pop_loop (A := A) B 1000 _ _ vs1 h2 hT hx (by have := congrArg List.length hT; simp at this; omega) hl hL rfl rfl
  have h4 := (r3.app [.idict []]).seta { t with M := st.length, N := st3.length, L := undoR B t.L, T := A, ms := t.ms.take (t.ms.length - n), ks := [] } rfl rfl rfl (r3.app _).m (last_get _ _) lM
  have a4 := attrSet_of (o := eVar 13) (e := eNewIDict) (k := 39) (vs := vs3) (st := st3) { t with M := st.length, N := st3.length, L := undoR B t.L, T := A, ms := t.ms.take (t.ms.length - n), ks := [] } (v := .ref st3.length) rfl (var_of r2) (r3.app [.idict []]) rfl
  have h5 := h4.seta { t with M := st.length, N := st3.length, L := undoR B t.L, T := A, ms := t.ms.take (t.ms.length - n), ks := [], failed := false } rfl rfl rfl h4.m h4.n lM
  have a5 := attrSet_of (o := eVar 13) (e := eOp2 (dB qIn) (eTup []) (eAttr (eVar 13) 30)) (k := 40) (vs := vs3) (v := .d (.bool false)) { t with M := st.length, N := st3.length, L := undoR B t.L, T := A, ms := t.ms.take (t.ms.length - n), ks := [], failed := false } (op2_of (tup_of seq_nil rfl) (attr_of (var_of r2) h4 rfl) rfl (by dsimp only [rd]; rw [h4.f]) (by unfold dB; rw [in_firsts hG]; rfl)) (var_of r2) h4 rfl
  have h6 := h5.seta { t with M := st.length, N := st3.length, L := undoR B t.L, T := A, ms := t.ms.take (t.ms.length - n), ks := [], failed := false, clash := .tuple [] } rfl rfl rfl h5.m h5.n lM
  have a6 := attrSet_of (o := eVar 13) (e := eTup []) (k := 35) (vs := vs3) (v := .d (.tuple [])) { t with M := st.length, N := st3.length, L := undoR B t.L, T := A, ms := t.ms.take (t.ms.length - n), ks := [], failed := false, clash := .tuple [] } (tup_of seq_nil rfl) (var_of r2) h5 rfl
  refine ⟨_, st.length, st3.length, run_next rfl (q_skip (t2_of (var_of rfl) rfl rfl rfl (by simp [qLt]; omega)) (q_step a1 (q_step a2 (q_step r1 (q_step a4 (q_step a5 (q_step a6 q_nil))))))), h6, ?_, Nat.le_refl _⟩
  have g1 : Agree [1, 3, 5] st (st ++ [.list ((t.ms.take (t.ms.length - n)).map natD)]) := (Agree.app st _).mono (by simp)
  have g2 := g1.trans ((Agree.set _ 1 (.sdict (attrs { t with M := st.length, ms := t.ms.take (t.ms.length - n) }))).mono (by simp))
  have g3 := g2.trans (r4.mono (by simp))
  exact (((g3.trans ((Agree.app _ [.idict []]).mono (by simp))).trans ((Agree.set _ 1 _).mono (by simp))).trans ((Agree.set _ 1 _).mono (by simp))).trans ((Agree.set _ 1 _).mono (by simp))
end Mine.Pure
end
section
set_option maxRecDepth 100000
namespace Mine.Pure
open PySem
noncomputable abbrev Mark := List (List Int) × List En
noncomputable def trailD (T : List En) : PyData := .list (T.map En.D)
noncomputable def markD (m : Mark) : PyData := .tuple [ownD m.1, trailD m.2]
structure Sta where
  q : Nat
  s : Nat
  L : List (List Int)
  T : List En
  R : List Mark
  nw : List Int
noncomputable def staA (u : Sta) : List (Nat × PV) := [(27, .d (ownD u.L)), (37, .d (trailD u.T)), (38, .ref u.q), (39, .d (ilist u.nw))]
structure SI (st : St) (u : Sta) : Prop where
  q : st[u.q]? = some (.list (u.R.reverse.map markD))
  s : st[u.s]? = some (.sdict (staA u))
  lq : 7 < u.q
  ls : 7 < u.s
theorem SI.keep {S : List Nat} {st st' : St} {u : Sta} (h : SI st u) (a : Agree S st st') (hq : u.q ∉ S) (hs : u.s ∉ S) : SI st' u := ⟨a _ hq _ h.q, a _ hs _ h.s, h.lq, h.ls⟩
theorem SI.app {st : St} {u : Sta} (h : SI st u) (g : St) : SI (st ++ g) u := h.keep (Agree.app st g) (by simp) (by simp)
theorem SI.ne {st : St} {u : Sta} (h : SI st u) : u.q ≠ u.s := fun z => by have := h.q; rw [z, h.s] at this; cases this
theorem SI.sets {st : St} {u : Sta} (h : SI st u) (u' : Sta) (hq : u'.q = u.q) (hs : u'.s = u.s) (hR : u'.R = u.R) : SI (st.set u.s (.sdict (staA u'))) u' :=
  ⟨by rw [hq, hR]; exact get_set_ne h.q (Ne.symm h.ne), by rw [hs]; exact get_set_eq h.s, by rw [hq]; exact h.lq, by rw [hs]; exact h.ls⟩
theorem sM {st : St} {t : Told} {u : Sta} (h : TI st t) (h' : SI st u) : u.s ≠ t.M := fun z => by have := h'.s; rw [z, h.m] at this; cases this
theorem sN {st : St} {t : Told} {u : Sta} (h : TI st t) (h' : SI st u) : u.s ≠ t.N := fun z => by have := h'.s; rw [z, h.n] at this; cases this
theorem qN {st : St} {t : Told} {u : Sta} (h : TI st t) (h' : SI st u) : u.q ≠ t.N := fun z => by have := h'.q; rw [z, h.n] at this; cases this
theorem skey_of {a : PE} {k : Nat} {vs : Vars} {st st1 : St} {u : Sta} {v : PV} (h : a vs st = some (.ref u.s, st1)) (hs : SI st1 u) (h3 : (staA u).lookup k = some v) : eKey a k vs st = some (v, st1) := key_of h hs.s h3
theorem skeySet_of {o e : PE} {k : Nat} {vs : Vars} {st st1 st2 : St} {u : Sta} (u' : Sta) {v w : PV} (h : e vs st = some (v, st1)) (h1 : o vs st1 = some (.ref u.s, st2)) (hs : SI st2 u) (h3 : (staA u).lookup k = some w) (he : setKey (staA u) k v = staA u') : sKeySet o k e vs st = some (.next, vs, st2.set u.s (.sdict (staA u'))) := by
  rw [keySet_of h h1 hs.s h3 (by simp [staA]), he]
theorem begun_eq {st : St} {t : Told} {u : Sta} (h : TI st t) (hs : SI st u) (hq : u.q ≠ t.M) (hT : t.T.length ≤ 100) (hm : t.ms.length ≤ 100) (hR : u.R.length ≤ 100) (hf : t.failed = false) :
    ∃ st', f_law_begun [.ref 2, .ref u.s] st = some (.d (.bool true), st') ∧ TI st' { t with ms := t.ms ++ [t.T.length] } ∧ SI st' { u with R := (u.L, u.T) :: u.R } ∧ Agree [t.M, u.q] st st' := by
  obtain ⟨st1, e1, t1, a1⟩ := push_eq h hT hm
  have s1 : SI st1 u := hs.keep a1 (by simpa using hq) (by simpa using sM h hs)
  let vs0 : Vars := upd (upd (fun _ => none) 29 (.ref u.s)) 28 (.ref 2)
  have b1 : sExpr (eMeth m_push (eVar 28) []) vs0 st = some (.next, vs0, st1) := by
    unfold sExpr; rw [meth_of (vs := vs0) (var_of rfl) h seq_nil e1]; rfl
  have b2 := append_attr (o := eKey (eVar 29) 38) (e := eTup [eKey (eVar 29) 27, eKey (eVar 29) 37]) (vs := vs0) (y := markD (u.L, u.T)) (skey_of (var_of rfl) s1 rfl) (tup2_of (skey_of (var_of rfl) s1 rfl) (skey_of (var_of rfl) s1 rfl)) s1.q (by rw [List.length_map, List.length_reverse]; omega)
  have hq5 := s1.lq
  have ag : Agree [u.q] st1 (st1.set u.q (.list (u.R.reverse.map markD ++ [markD (u.L, u.T)]))) := Agree.set _ _ _
  have q1 : (1 : Nat) ≠ u.q := by omega
  have q2 : (2 : Nat) ≠ u.q := by omega
  have q3 : (3 : Nat) ≠ u.q := by omega
  have q4 : (4 : Nat) ≠ u.q := by omega
  have q5 : (5 : Nat) ≠ u.q := by omega
  have t2 : TI (st1.set u.q (.list (u.R.reverse.map markD ++ [markD (u.L, u.T)]))) { t with ms := t.ms ++ [t.T.length] } :=
    t1.keep ag (by simpa using q1) (by simpa using q2) (by simpa using q3) (by simpa using q4) (by simpa using q5) (by simpa using Ne.symm hq) (by simpa using Ne.symm (qN t1 s1))
  refine ⟨_, run_ret rfl (q_step b1 (q_step b2 (q_ret (op1_of (attr_of (var_of rfl) t2 rfl) rfl (by show dNot (.bool t.failed) = _; rw [hf]; rfl))))), t2, ⟨?_, get_set_ne s1.s s1.ne, s1.lq, s1.ls⟩, (a1.mono (by simp)).trans (ag.mono (by simp))⟩
  rw [get_set_eq s1.q]; simp
noncomputable def Sta.struck (u : Sta) (x : Nat) (s : Sg) (k : Int) (rs : Option (List PyData)) (spk : Int) (l : List Int) : Sta :=
  if l.filter (keepsM s k) == [] then u
  else if l.filter (keepsM s k) == l then u
  else { u with T := u.T ++ [⟨x, l, s, k, rs, spk⟩], L := u.L.set x (l.filter (keepsM s k)), nw := foldI [] (u.nw ++ [(x : Int)]) }
noncomputable def struckRes (rs : Option (List PyData)) (x : Nat) (s : Sg) (k : Int) (l : List Int) : PyData := if l.filter (keepsM s k) == [] then .tuple (clashOf rs x s k) else .none
theorem take_of {xs : List PyData} {n : Nat} (hn : n ≤ 1000000) (hl : xs.length ≤ 1000000) : dTake (.list xs) (.int (n : Int)) = some (.list (xs.take n)) := by
  dsimp only [dTake]; rw [if_pos (by rw [szOk_of hl, small_of (by omega) (by omega)]; simp)]; simp
theorem drop_of {xs : List PyData} {n : Nat} (hn : n ≤ 1000000) (hl : xs.length ≤ 1000000) : dDrop (.list xs) (.int (n : Int)) = some (.list (xs.drop n)) := by
  dsimp only [dDrop]; rw [if_pos (by rw [szOk_of hl, small_of (by omega) (by omega)]; simp)]; simp
theorem addL_of {xs ys : List PyData} (hl : xs.length + ys.length ≤ 1000000) : dAdd (.list xs) (.list ys) = some (.list (xs ++ ys)) := by
  dsimp only [dAdd]; rw [if_pos (szOk_of hl)]
theorem sorted_of {l : List Int} (h : ∀ i ∈ l, 0 ≤ i ∧ i ≤ 2) : dSortedSet (ilist l) = some (ilist (foldI [] l)) := by
  unfold ilist dSortedSet
  dsimp only
  rw [ints_map, Option.bind_some, if_pos]
  rw [List.all_eq_true]
  intro i hi
  have := h i hi
  simp; omega
theorem law_struck_eq {st : St} {u : Sta} {x : Nat} {s : Sg} {k : Int} {rs : Option (List PyData)} {spk : Int} {l : List Int} (h : SI st u) (hG : Good u.L) (hx : u.L[x]? = some l) (hT : u.T.length ≤ 100) (hnw : ∀ i ∈ u.nw, 0 ≤ i ∧ i ≤ 2) (hnl : u.nw.length ≤ 100) (hrs : (rs.getD []).length ≤ 100) :
    ∃ st', f_law_struck [.ref u.s, .d (litD x s k), .d (rsD rs), .d (.int spk)] st = some (.d (struckRes rs x s k l), st') ∧ SI st' (u.struck x s k rs spk l) ∧ Agree [u.s] st st' := by
  obtain ⟨hsub, hn⟩ := hG.at hx
  have h5 := (win5 hsub).2
  have hL := hG.1
  have hxlt : x < u.L.length := (List.getElem?_eq_some_iff.mp hx).1
  let vs0 : Vars := upd (upd (upd (upd (fun _ => none) 16 (.d (.int spk))) 15 (.d (rsD rs))) 9 (.d (litD x s k))) 29 (.ref u.s)
  let vs1 : Vars := upd vs0 10 (.d (.int (x : Int)))
  let vs2 : Vars := upd vs1 17 (.d (ilist l))
  let vs3 : Vars := upd vs2 12 (.d (ilist (l.filter (keepsM s k))))
  have a1 : sAssign 10 (eOp2 dItem (eVar 9) (eD (.int 0))) vs0 st = some (.next, vs1, st) := by
    unfold sAssign; rw [op2_of (var_of (show vs0 9 = _ from rfl)) rfl rfl rfl (lit_x x s k)]; rfl
  have a2 : sAssign 17 (eOp2 dItem (eKey (eVar 29) 27) (eVar 10)) vs1 st = some (.next, vs2, st) := by
    unfold sAssign
    rw [op2_of (skey_of (var_of (show vs1 29 = _ from rfl)) h (show (staA u).lookup 27 = some (.d (ownD u.L)) from rfl)) (var_of rfl) rfl rfl (item_own hx (by omega))]; rfl
  have a3 : sAssign 12 (keptE (eVar 17)) vs2 st = some (.next, vs3, st) := by
    unfold sAssign
    rw [kept_eq (own := eVar 17) (vs := vs2) (x := x) (s := s) (k := k) (l := l) rfl (var_of rfl) (by omega)]; rfl
  have tA := t2_of (f := qEq) (a := eVar 12) (b := eLst []) (vs := vs3) (st := st) (y := ilist []) (var_of rfl) (lst_of seq_nil rfl) rfl rfl (qEq_il (l.filter (keepsM s k)) [])
  have tB := t2_of (f := qNe) (a := eVar 12) (b := eVar 17) (vs := vs3) (st := st) (var_of rfl) (var_of rfl) rfl rfl (qNe_il (l.filter (keepsM s k)) l)
  unfold struckRes Sta.struck
  cases c1 : l.filter (keepsM s k) == [] with
  | true =>
    rw [if_pos rfl, if_pos rfl]
    rw [c1] at tA
    refine ⟨st, ?_, h, (Agree.refl [] st).mono (by simp)⟩
    refine run_ret rfl (q_step a1 (q_step a2 (q_step a3 (q_stop (if_true tA (q_ret (op2_of (x := .tuple (rs.getD [])) (y := .tuple [negD x s k]) (z := .tuple (clashOf rs x s k)) (p := .d (.tuple (rs.getD []))) ?_ (tup_of (seq_cons (call_of (seq_cons (var_of rfl) seq_nil) (against_eq x s k _)) seq_nil) rfl) rfl rfl ?_)))))))
    · cases rs with
      | none => exact eif_true (t2_of (var_of rfl) rfl rfl rfl rfl) (tup_of seq_nil rfl)
      | some r => exact eif_false (t2_of (var_of rfl) rfl rfl rfl rfl) (var_of rfl)
    · dsimp only [dAdd]
      rw [if_pos (szOk_of (by simp; omega))]; rfl
  | false =>
    rw [if_neg (by simp), if_neg (by simp)]
    rw [c1] at tA
    cases c2 : l.filter (keepsM s k) == l with
    | true =>
      rw [if_pos rfl]
      rw [c2] at tB
      exact ⟨st, run_ret rfl (q_step a1 (q_step a2 (q_step a3 (q_skip tA (q_skip tB (q_ret rfl)))))), h, (Agree.refl [] st).mono (by simp)⟩
    | false =>
      rw [if_neg (by simp)]
      rw [c2] at tB
      obtain ⟨g, eg⟩ := ranges_eq (l := l) (by omega) st
      have h1 := h.app g
      let e : En := ⟨x, l, s, k, rs, spk⟩
      let u1 : Sta := { u with T := u.T ++ [e] }
      let u2 : Sta := { u with T := u.T ++ [e], L := u.L.set x (l.filter (keepsM s k)) }
      let u3 : Sta := { u with T := u.T ++ [e], L := u.L.set x (l.filter (keepsM s k)), nw := foldI [] (u.nw ++ [(x : Int)]) }
      have tr : trailD (u.T ++ [e]) = .list (u.T.map En.D ++ [e.D]) := by unfold trailD; rw [List.map_append]; rfl
      have h2 := h1.sets u1 rfl rfl rfl
      have b1 : sKeySet (eVar 29) 37 (eOp2 dAdd (eKey (eVar 29) 37) (eLst [eTup [eVar 10, eCall f_law_ranges [eVar 17], eVar 9, eVar 15, eVar 16]])) vs3 st = some (.next, vs3, (st ++ g).set u.s (.sdict (staA u1))) :=
        skeySet_of (u := u) (v := .d (trailD (u.T ++ [e]))) (w := .d (trailD u.T)) u1 (op2_of (skey_of (var_of rfl) h rfl) (lst_of (xs := [e.D]) (seq_cons (tup_of (seq_cons (var_of rfl) (seq_cons (call_of (seq_cons (var_of rfl) seq_nil) eg) (seq_cons (var_of rfl) (seq_cons (var_of rfl) (seq_cons (var_of rfl) seq_nil))))) rfl) seq_nil) rfl) rfl rfl (by rw [tr]; exact addL_of (by rw [List.length_map]; simp; omega))) (var_of rfl) h1 rfl rfl
      have h3 := h2.sets u2 rfl rfl rfl
      have ow : ownD (u.L.set x (l.filter (keepsM s k))) = .list (((u.L.map ilist).take x ++ [ilist (l.filter (keepsM s k))]) ++ (u.L.map ilist).drop (x + 1)) := by
        unfold ownD
        rw [List.set_eq_take_append_cons_drop, if_pos hxlt]
        simp [List.map_take, List.map_drop]
      have hl1 : ((u.L.map ilist).take x).length + [ilist (l.filter (keepsM s k))].length ≤ 1000000 := by simp; omega
      have hl2 : ((u.L.map ilist).take x ++ [ilist (l.filter (keepsM s k))]).length + ((u.L.map ilist).drop (x + 1)).length ≤ 1000000 := by simp; omega
      have b2 : sKeySet (eVar 29) 27 (eOp2 dAdd (eOp2 dAdd (eOp2 dTake (eKey (eVar 29) 27) (eVar 10)) (eLst [eVar 12])) (eOp2 dDrop (eKey (eVar 29) 27) (eOp2 dAdd (eVar 10) (eD (.int 1))))) vs3 ((st ++ g).set u.s (.sdict (staA u1))) = some (.next, vs3, ((st ++ g).set u.s (.sdict (staA u1))).set u.s (.sdict (staA u2))) :=
        skeySet_of (u := u1) (v := .d (ownD (u.L.set x (l.filter (keepsM s k))))) (w := .d (ownD u.L)) u2 (op2_of (op2_of (op2_of (skey_of (u := u1) (var_of rfl) h2 rfl) (var_of rfl) rfl rfl (take_of (by omega) (by rw [List.length_map]; show u.L.length ≤ _; omega))) (lst_of (seq_cons (var_of rfl) seq_nil) rfl) rfl rfl (addL_of hl1)) (op2_of (skey_of (u := u1) (var_of rfl) h2 rfl) (op2_of (var_of rfl) rfl rfl rfl (z := .int ((x + 1 : Nat) : Int)) rfl) rfl rfl (drop_of (by omega) (by rw [List.length_map]; show u.L.length ≤ _; omega))) rfl rfl (by rw [ow]; exact addL_of hl2)) (var_of rfl) h2 rfl rfl
      have h4 := h3.sets u3 rfl rfl rfl
      have b3 : sKeySet (eVar 29) 39 (eOp1 dSortedSet (eOp2 dAdd (eKey (eVar 29) 39) (eLst [eVar 10]))) vs3 (((st ++ g).set u.s (.sdict (staA u1))).set u.s (.sdict (staA u2))) = some (.next, vs3, (((st ++ g).set u.s (.sdict (staA u1))).set u.s (.sdict (staA u2))).set u.s (.sdict (staA u3))) :=
        skeySet_of (u := u2) (v := .d (ilist (foldI [] (u.nw ++ [(x : Int)])))) (w := .d (ilist u.nw)) u3 (op1_of (x := ilist (u.nw ++ [(x : Int)])) (op2_of (skey_of (u := u2) (var_of rfl) h3 rfl) (lst_of (xs := [.int (x : Int)]) (seq_cons (var_of rfl) seq_nil) rfl) rfl rfl (by
          refine (addL_of ?_).trans ?_
          · rw [List.length_map]; show u.nw.length + 1 ≤ _; omega
          · unfold ilist; rw [List.map_append]; rfl)) rfl (sorted_of (by
            intro i hi
            rcases List.mem_append.mp hi with hi | hi
            · exact hnw i hi
            · rw [List.mem_singleton] at hi; omega))) (var_of rfl) h3 rfl rfl
      exact ⟨_, run_ret rfl (q_step a1 (q_step a2 (q_step a3 (q_skip tA (q_step (if_true tB (q_step b1 (q_step b2 (q_step b3 q_nil)))) (q_ret rfl)))))), h4, ((((Agree.app st g).mono (by simp)).trans (Agree.set _ _ _)).trans (Agree.set _ _ _)).trans (Agree.set _ _ _)⟩
end Mine.Pure
end
section
set_option maxRecDepth 100000
namespace Mine.Pure
open PySem
noncomputable def Chain : List Mark → List (List Int) → List En → Prop
  | [], _, _ => True
  | m :: R, L, T => (∃ B, T = m.2 ++ B.reverse ∧ undoR B L = m.1) ∧ Chain R m.1 m.2
noncomputable def lastM (A : List Mark) (p : Mark) : Mark := A.foldl (fun _ m => m) p
theorem undoR_app (A B : List En) (L : List (List Int)) : undoR (A ++ B) L = undoR B (undoR A L) := List.foldl_append ..
theorem chain_drop : ∀ (A R : List Mark) (L : List (List Int)) (T : List En), Chain (A ++ R) L T → (∃ B, T = (lastM A (L, T)).2 ++ B.reverse ∧ undoR B L = (lastM A (L, T)).1) ∧ Chain R (lastM A (L, T)).1 (lastM A (L, T)).2
  | [], R, L, T, h => ⟨⟨[], by simp [lastM], rfl⟩, h⟩
  | m :: A, R, L, T, h => by
    obtain ⟨⟨B, h1, h2⟩, h3⟩ := h
    obtain ⟨⟨B2, h4, h5⟩, h6⟩ := chain_drop A R m.1 m.2 h3
    have e : lastM (m :: A) (L, T) = lastM A (m.1, m.2) := rfl
    rw [e]
    refine ⟨⟨B ++ B2, ?_, ?_⟩, h6⟩
    · rw [List.reverse_append, ← List.append_assoc, ← h4]; exact h1
    · rw [undoR_app, h2, h5]
theorem chain_enter {R : List Mark} {L : List (List Int)} {T : List En} {e : En} {l : List Int} (h : Chain R L T) (hx : L[e.x]? = some e.old) : Chain R (L.set e.x l) (T ++ [e]) := by
  cases R with
  | nil => trivial
  | cons m R =>
    obtain ⟨⟨B, h1, h2⟩, h3⟩ := h
    refine ⟨⟨e :: B, by rw [h1]; simp, ?_⟩, h3⟩
    show undoR B ((L.set e.x l).set e.x e.old) = m.1
    rw [List.set_set, ← h2]
    congr 1
    obtain ⟨hlt, he⟩ := List.getElem?_eq_some_iff.mp hx
    rw [← he, List.set_getElem_self]
theorem good_set {L : List (List Int)} {x : Nat} {l : List Int} (h : Good L) (hs : l.Sublist win) (hn : l ≠ []) : Good (L.set x l) :=
  ⟨by rw [List.length_set]; exact h.1, fun m hm => by
    rcases List.mem_or_eq_of_mem_set hm with h1 | rfl
    · exact h.2 m h1
    · exact ⟨hs, hn⟩⟩
theorem good_undo : ∀ (B : List En) (L : List (List Int)), Good L → (∀ e ∈ B, e.old.Sublist win ∧ e.old ≠ []) → Good (undoR B L)
  | [], _, h, _ => h
  | e :: B, L, h, hB => good_undo B (L.set e.x e.old) (good_set h (hB e List.mem_cons_self).1 (hB e List.mem_cons_self).2) fun e' he => hB e' (List.mem_cons_of_mem _ he)
noncomputable def keyLists : List (List Int) := [[], [0], [1], [2], [0, 1], [1, 0], [0, 2], [2, 0], [1, 2], [2, 1], [0, 1, 2], [0, 2, 1], [1, 0, 2], [1, 2, 0], [2, 0, 1], [2, 1, 0]]
noncomputable def chkK (ks : List Int) : Bool := decide (ks.length ≤ 3) && (isort ks).all (fun i => decide (0 ≤ i) && decide (i ≤ 2)) && decide ((isort ks).length ≤ 3) && [0, 1, 2].all fun x => keyLists.contains (putK ks x) && (foldI [] (isort ks ++ [x]) == isort (putK ks x))
theorem allK : keyLists.all chkK = true := by decide +kernel
theorem keys_ok {ks : List Int} (h : ks ∈ keyLists) : ks.length ≤ 3 ∧ (∀ i ∈ isort ks, 0 ≤ i ∧ i ≤ 2) ∧ (isort ks).length ≤ 3 ∧ ∀ x : Nat, x < 3 → putK ks x ∈ keyLists ∧ foldI [] (isort ks ++ [(x : Int)]) = isort (putK ks x) := by
  have := List.all_eq_true.mp allK ks h
  unfold chkK at this
  simp only [Bool.and_eq_true] at this
  obtain ⟨⟨⟨h1, h2⟩, h3⟩, h4⟩ := this
  refine ⟨of_decide_eq_true h1, fun i hi => ?_, of_decide_eq_true h3, fun x hx => ?_⟩
  · have := List.all_eq_true.mp h2 i hi
    simpa using this
  · have hm : (x : Int) ∈ [0, 1, 2] := by
      have : x = 0 ∨ x = 1 ∨ x = 2 := by omega
      rcases this with rfl | rfl | rfl <;> simp
    have := List.all_eq_true.mp h4 x hm
    simp only [Bool.and_eq_true] at this
    exact ⟨by simpa using this.1, eq_of_beq this.2⟩
structure Rel (t : Told) (u : Sta) (n : Nat) : Prop where
  L : t.L = u.L
  T : t.T = u.T
  ms : t.ms = u.R.reverse.map fun m => m.2.length
  ch : Chain u.R u.L u.T
  g : Good u.L
  gF : Good t.F
  len : u.L.length = t.F.length
  en : ∀ e ∈ u.T, e.x < u.L.length ∧ e.old.Sublist win ∧ e.old ≠ []
  nr : ∀ e ∈ u.T, Nice 2 (rsD e.rs)
  nw : u.nw = isort t.ks
  ks : t.ks ∈ keyLists
  tl : u.T.length ≤ n
  rl : u.R.length ≤ n
structure J (st : St) (t : Told) (u : Sta) (cs : List Int) (b N : Int) : Prop where
  ti : TI st t
  si : SI st u
  qM : u.q ≠ t.M
  fe : Feed st cs b N
structure Same (t : Told) (u : Sta) (t' : Told) (u' : Sta) : Prop where
  F : t'.F = t.F
  q : u'.q = u.q
  s : u'.s = u.s
  k : t'.spk = t.spk
noncomputable def Calm (t : Told) : Prop := t.failed = false ∧ t.clash = .tuple []
theorem putKey_of {st : St} {i k : Nat} {es : List (Nat × PV)} {v u : PV} (h2 : st[i]? = some (.sdict es)) (h3 : es.lookup k = some u) (hl : es.length ≤ 1000000) : putKey st (.ref i) k v = some (st.set i (.sdict (setKey es k v))) := by
  unfold putKey
  dsimp only
  rw [h2]; dsimp only
  rw [if_pos (by rw [h3, szOk_of hl]; rfl)]
theorem keySet2_of {o o2 e : PE} {k k2 : Nat} {vs : Vars} {st st1 st2 st3 : St} {x y : PyData} {i : Nat} (h : e vs st = some (.d (.tuple [x, y]), st1)) (h1 : o vs st1 = some (.ref i, st1)) (h2 : putKey st1 (.ref i) k (.d x) = some st2) (h3 : o2 vs st2 = some (.ref i, st2)) (h4 : putKey st2 (.ref i) k2 (.d y) = some st3) : sKeySet2 o k o2 k2 e vs st = some (.next, vs, st3) := by
  unfold sKeySet2; rw [h, Option.bind_some]; dsimp only; rw [h1, Option.bind_some]; dsimp only; rw [h2, Option.bind_some, h3, Option.bind_some]; dsimp only; rw [h4]; rfl
theorem back_loop {R : List Mark} : ∀ (A : List Mark) (a : Int) (u : Sta) (st : St) (vs : Vars), SI st u → u.R = A ++ R → u.R.length ≤ 100 → vs 29 = some (.ref u.s) →
    ∃ st' vs', forL (.one 31) (sSeq [sKeySet2 (eVar 29) 27 (eVar 29) 37 (ePop (eKey (eVar 29) 38))]) (rangeL a A.length) vs st = some (.next, vs', st') ∧ vs' 29 = some (.ref u.s) ∧ vs' 28 = vs 28 ∧ SI st' { u with L := (lastM A (u.L, u.T)).1, T := (lastM A (u.L, u.T)).2, R := R } ∧ Agree [u.q, u.s] st st'
  | [], a, u, st, vs, h, hR, _, h29 => ⟨st, vs, rfl, h29, rfl, by rw [← show u.R = R from hR]; exact h, (Agree.refl [] st).mono (by simp)⟩
  | m :: A, a, u, st, vs, h, hR, hl, h29 => by
    have h31 : upd vs 31 (.d (.int a)) 29 = some (.ref u.s) := h29
    have hl' : (A ++ R).length + 1 ≤ 100 := by rw [hR] at hl; simpa using hl
    have pe := pop_of (o := eKey (eVar 29) 38) (vs := upd vs 31 (.d (.int a))) (skey_of (var_of h31) h rfl) h.q (y := markD m) (by rw [hR]; simp) (by rw [List.length_map, List.length_reverse]; omega)
    have dl : (u.R.reverse.map markD).dropLast = (A ++ R).reverse.map markD := by rw [hR]; simp
    rw [dl] at pe
    let u1 : Sta := { u with R := A ++ R }
    let u2 : Sta := { u with L := m.1, R := A ++ R }
    let u3 : Sta := { u with L := m.1, T := m.2, R := A ++ R }
    have s1 : SI (st.set u.q (.list ((A ++ R).reverse.map markD))) u1 := ⟨get_set_eq h.q, get_set_ne h.s h.ne, h.lq, h.ls⟩
    have s2 := s1.sets u2 rfl rfl rfl
    have s3 := s2.sets u3 rfl rfl rfl
    have k1 := putKey_of (k := 27) (v := .d (ownD m.1)) s1.s (u := .d (ownD u.L)) rfl (by simp [staA])
    have k2 := putKey_of (k := 37) (v := .d (trailD m.2)) s2.s (u := .d (trailD u.T)) rfl (by simp [staA])
    have ks := keySet2_of (o := eVar 29) (o2 := eVar 29) pe (var_of h31) k1 (var_of h31) k2
    obtain ⟨st', vs', r1, r2, r3, r4, r5⟩ := back_loop (R := R) A (a + 1) u3 _ (upd vs 31 (.d (.int a))) s3 rfl (by show (A ++ R).length ≤ 100; omega) h31
    exact ⟨st', vs', forL_step rfl (q_step ks q_nil) r1, r2, r3, r4, ((((Agree.set _ u.q _).mono (by simp)).trans ((Agree.set _ u.s _).mono (by simp))).trans ((Agree.set _ u.s _).mono (by simp))).trans r5⟩
theorem iRange1_of {e : PE} {vs : Vars} {st st1 : St} {n : Nat} (h : e vs st = some (.d (.int (n : Int)), st1)) (hn : n ≤ 1000) : iRange1 e vs st = some (rangeL 0 n, st1) := by
  unfold iRange1; rw [h, Option.bind_some]; dsimp only
  rw [if_pos (by rw [small_of (by omega) (by omega)]; simp; omega)]; simp
theorem taken_eq {st : St} {t : Told} {u : Sta} {cs : List Int} {b N : Int} {n k : Nat} (j : J st t u cs b N) (r : Rel t u n) (hn : n ≤ 100) (hk : 1 ≤ k ∧ k ≤ u.R.length) :
    ∃ st' t' u', f_law_taken_back [.ref 2, .ref u.s, .d (.int (k : Int))] st = some (.d (.bool true), st') ∧ J st' t' u' cs b N ∧ Rel t' u' n ∧ Same t u t' u' ∧ Calm t' := by
  obtain ⟨A, p, R, hR, hA⟩ : ∃ (A : List Mark) (p : Mark) (R : List Mark), u.R = (A ++ [p]) ++ R ∧ (A ++ [p]).length = k := by
    have h1 : u.R.take k ≠ [] := by
      intro z
      have := congrArg List.length z
      rw [List.length_take, List.length_nil] at this
      omega
    refine ⟨(u.R.take k).dropLast, (u.R.take k).getLast h1, u.R.drop k, ?_, ?_⟩
    · rw [List.dropLast_concat_getLast, List.take_append_drop]
    · rw [List.dropLast_concat_getLast, List.length_take]; omega
  have hlast : ∀ q, lastM (A ++ [p]) q = p := fun q => by simp [lastM]
  have ch := r.ch
  rw [hR] at ch
  obtain ⟨⟨B, hB1, hB2⟩, hch⟩ := chain_drop (A ++ [p]) R u.L u.T ch
  rw [hlast] at hB1 hB2 hch
  have hms : t.ms = (R.reverse.map fun m => m.2.length) ++ p.2.length :: (A.reverse.map fun m => m.2.length) := by rw [r.ms, hR]; simp
  have hmsl : t.ms.length = u.R.length := by rw [r.ms]; simp
  have hRl : u.R.length = k + R.length := by rw [hR, List.length_append, hA]
  have hrl := r.rl
  have htl := r.tl
  have hg := r.g.1
  have hBT : ∀ e ∈ B, e ∈ u.T := fun e he => by rw [hB1]; exact List.mem_append_right _ (List.mem_reverse.mpr he)
  have hsubk : t.ms.length - k = R.length := by omega
  obtain ⟨st1, M, N', e1, t1, a1, lM⟩ := pop_eq (A := p.2) (B := B) (n := k) j.ti r.gF (by omega) (by omega) (by rw [r.T]; exact hB1) (by rw [hsubk, hms, List.getElem?_append_right (by simp)]; simp) (by rw [r.L]; exact fun e he => (r.en e (hBT e he)).1) (by rw [r.T]; omega) (by rw [r.L]; omega)
  have htake : t.ms.take (t.ms.length - k) = R.reverse.map fun m => m.2.length := by
    rw [hsubk, hms]
    exact List.take_left' (by simp)
  rw [htake, r.L, hB2] at t1
  have hq7 := j.si.lq
  have hs7 := j.si.ls
  have s1 : SI st1 u := j.si.keep a1 (by simp; omega) (by simp; omega)
  let vs0 : Vars := upd (upd (upd (fun _ => none) 23 (.d (.int (k : Int)))) 29 (.ref u.s)) 28 (.ref 2)
  have b1 : sExpr (eMeth m_pop (eVar 28) [eVar 23]) vs0 st = some (.next, vs0, st1) := by
    unfold sExpr; rw [meth_of (vs := vs0) (var_of rfl) j.ti (seq_cons (var_of rfl) seq_nil) e1]; rfl
  obtain ⟨st2, vs2, l1, l2, l3, l4, l5⟩ := back_loop (R := R) (A ++ [p]) 0 u st1 vs0 s1 hR (by omega) rfl
  rw [hlast] at l4
  rw [hA] at l1
  have b2 : sFor (.one 31) (iRange1 (eVar 23)) [sKeySet2 (eVar 29) 27 (eVar 29) 37 (ePop (eKey (eVar 29) 38))] vs0 st1 = some (.next, vs2, st2) := for_of (iRange1_of (var_of rfl) (by omega)) l1
  let u2 : Sta := { u with L := p.1, T := p.2, R := R }
  let u3 : Sta := { u with L := p.1, T := p.2, R := R, nw := [] }
  have s3 : SI (st2.set u.s (.sdict (staA u3))) u3 := l4.sets u3 rfl rfl rfl
  have b3 := skeySet_of (k := 39) (o := eVar 29) (e := eLst []) (vs := vs2) (st := st2) (u := u2) (v := .d (ilist [])) u3 (lst_of seq_nil rfl) (var_of l2) l4 (w := .d (ilist u.nw)) rfl rfl
  have qM : u.q ≠ M := by have := lt_of_get j.si.q; omega
  have sMne : u.s ≠ M := by have := lt_of_get j.si.s; omega
  have sNne : u.s ≠ N' := sN t1 s1
  have qNne : u.q ≠ N' := qN t1 s1
  have ag : Agree [u.q, u.s] st1 (st2.set u.s (.sdict (staA u3))) := l5.trans ((Agree.set _ _ _).mono (by simp))
  have t3 := t1.keep ag (by simp; omega) (by simp; omega) (by simp; omega) (by simp; omega) (by simp; omega) (by simpa using ⟨Ne.symm qM, Ne.symm sMne⟩) (by simpa using ⟨Ne.symm qNne, Ne.symm sNne⟩)
  have g28 : vs2 28 = some (.ref 2) := l3
  have fin := eand_of (a := eOp1 dNot (eAttr (eVar 28) 40)) (b := eOp2 (dB qEq) (eAttr (eVar 28) 35) (eTup [])) (vs := vs2) (st := st2.set u.s (.sdict (staA u3))) (x := true) (y := true) (op1_of (attr_of (var_of g28) t3 rfl) rfl rfl) (fun _ => op2_of (x := dom []) (y := dom []) (attr_of (var_of g28) t3 rfl) (tup_of seq_nil rfl) rfl rfl (by unfold dB; rw [qEq_dom]; rfl)) (fun h => by cases h)
  refine ⟨_, _, u3, run_ret rfl (q_step b1 (q_step b2 (q_step b3 (q_ret fin)))), ⟨t3, s3, qM, ?_⟩, ⟨rfl, rfl, rfl, hch, ?_, r.gF, ?_, ?_, ?_, rfl, by simp [keyLists], ?_, ?_⟩, ⟨rfl, rfl, rfl, rfl⟩, ⟨rfl, rfl⟩⟩
  · exact (j.fe.keep a1 (by simp)).keep ag (by simp; omega)
  · show Good p.1
    rw [← hB2]; exact good_undo B u.L r.g fun e he => (r.en e (hBT e he)).2
  · show p.1.length = _
    rw [← hB2, undoR_len]; exact r.len
  · intro e he
    have := r.en e (by rw [hB1]; exact List.mem_append_left _ he)
    refine ⟨?_, this.2⟩
    show e.x < p.1.length
    rw [← hB2, undoR_len]; exact this.1
  · exact fun e he => r.nr e (by rw [hB1]; exact List.mem_append_left _ he)
  · have := congrArg List.length hB1
    rw [List.length_append] at this
    show p.2.length ≤ n; omega
  · show R.length ≤ n; omega
end Mine.Pure
end
section
set_option maxRecDepth 100000
namespace Mine.Pure
open PySem
theorem J.app {st : St} {t : Told} {u : Sta} {cs : List Int} {b N : Int} (j : J st t u cs b N) (g : St) : J (st ++ g) t u cs b N := ⟨j.ti.app g, j.si.app g, j.qM, j.fe.keep (Agree.app st g) (by simp)⟩
theorem J.keep0 {st st' : St} {t : Told} {u : Sta} {cs : List Int} {b N : Int} (j : J st t u cs b N) (a : Agree [] st st') : J st' t u cs b N :=
  ⟨j.ti.keep a (by simp) (by simp) (by simp) (by simp) (by simp) (by simp) (by simp), j.si.keep a (by simp) (by simp), j.qM, j.fe.keep a (by simp)⟩
theorem compL2_cons {t u : Tgt} {it2 : PI} {elt : PE} {x : PyData} {xs ys zs ws : List PyData} {vs vs1 : Vars} {st st1 st2 st3 : St} (h1 : t.put vs x = some vs1) (h2 : it2 vs1 st = some (ys, st1)) (h3 : compL u [] elt ys vs1 st1 = some (zs, st2)) (h4 : compL2 t u it2 elt xs vs st2 = some (ws, st3)) : compL2 t u it2 elt (x :: xs) vs st = some (zs ++ ws, st3) := by
  rw [compL2, h1, Option.bind_some, h2, Option.bind_some]; dsimp only; rw [h3, Option.bind_some]; dsimp only; rw [h4]; rfl
theorem comp2_of {t u : Tgt} {it it2 : PI} {elt : PE} {xs ys : List PyData} {vs : Vars} {st st1 st2 : St} (h : it vs st = some (xs, st1)) (h2 : compL2 t u it2 elt xs (fun k => if k ∈ u.ks then none else vs k) st1 = some (ys, st2)) (hl : ys.length ≤ 1000000) : eComp2 t u it it2 elt vs st = some (.d (.list ys), st2) := by
  unfold eComp2; rw [h, Option.bind_some]; dsimp only; rw [h2, Option.bind_some]; dsimp only; rw [if_pos (szOk_of hl)]
noncomputable def lits : List (Sg × Int) := [(.le, 0), (.le, 3), (.ge, 0), (.ge, 3), (.eq, 0), (.eq, 3), (.ne, 0), (.ne, 3)]
noncomputable def litsE : PE := eComp2 (.one 11) (.one 4) (iVal (eTup [eD (.str "<="), eD (.str ">="), eD (.str "="), eD (.str "!=")])) (iVal (eTup [eD (.int 0), eD (.int 3)])) (eTup [eVar 10, eVar 11, eVar 4])
theorem lits_eq {x : Int} {vs : Vars} (st : St) (h : vs 10 = some (.d (.int x))) : litsE vs st = some (.d (.list (lits.map fun p => litD x p.1 p.2)), st) := by
  have inner : ∀ (vs1 : Vars) (s : Sg), vs1 10 = some (.d (.int x)) → vs1 11 = some (.d (.str s.str)) → compL (.one 4) [] (eTup [eVar 10, eVar 11, eVar 4]) [.int 0, .int 3] vs1 st = some ([litD x s 0, litD x s 3], st) := by
    intro vs1 s h1 h2
    have := comp_pure (t := .one 4) (ifs := []) (elt := eTup [eVar 10, eVar 11, eVar 4]) (vs := vs1) (st := st) (g := fun k : Int => PyData.int k) (p := fun _ => true) (f := fun k => litD x s k) (xs := [0, 3]) fun k _ => ⟨_, rfl, ifs_nil, fun _ => tup3_of (var_of (show upd vs1 4 _ 10 = _ from h1)) (var_of (show upd vs1 4 _ 11 = _ from h2)) (var_of rfl)⟩
    rw [filter_true] at this
    exact this
  have it2 : ∀ vs1 : Vars, iVal (eTup [eD (.int 0), eD (.int 3)]) vs1 st = some ([.int 0, .int 3], st) := fun vs1 => iVal_tuple (tup_of (seq_cons rfl (seq_cons rfl seq_nil)) rfl) (by simp)
  refine comp2_of (iVal_tuple (xs := [.str "<=", .str ">=", .str "=", .str "!="]) (tup_of (seq_cons rfl (seq_cons rfl (seq_cons rfl (seq_cons rfl seq_nil)))) rfl) (by simp)) ?_ (by simp [lits])
  let vn : Vars := fun k => if k ∈ (Tgt.one 4).ks then none else vs k
  have st1 : ∀ (s : Sg) {xs ws : List PyData}, compL2 (.one 11) (.one 4) (iVal (eTup [eD (.int 0), eD (.int 3)])) (eTup [eVar 10, eVar 11, eVar 4]) xs vn st = some (ws, st) → compL2 (.one 11) (.one 4) (iVal (eTup [eD (.int 0), eD (.int 3)])) (eTup [eVar 10, eVar 11, eVar 4]) (.str s.str :: xs) vn st = some ([litD x s 0, litD x s 3] ++ ws, st) :=
    fun s _ _ h4 => compL2_cons (vs1 := upd vn 11 (.d (.str s.str))) rfl (it2 _) (inner _ s h rfl) h4
  exact st1 .le (st1 .ge (st1 .eq (st1 .ne rfl)))
noncomputable def holdB : List PS := [sIf (tOp2 qNe (eMeth m_holds (eVar 28) [eVar 9]) (eCall f_law_said [eKey (eVar 29) 27, eVar 9])) [sRet (eD (.bool false))] []]
theorem hold_loop {t : Told} {u : Sta} {x : Nat} {l : List Int} (hL : t.L = u.L) (hG : Good u.L) (hx : u.L[x]? = some l) : ∀ (ps : List (Sg × Int)) (vs : Vars) (st : St), TI st t → SI st u → (∀ p ∈ ps, p.2 ∈ kList) → vs 28 = some (.ref 2) → vs 29 = some (.ref u.s) →
    ∃ st' vs', forL (.one 9) (sSeq holdB) (ps.map fun p => litD x p.1 p.2) vs st = some (.next, vs', st') ∧ Agree [] st st' ∧ vs' 28 = vs 28 ∧ vs' 29 = vs 29 ∧ vs' 30 = vs 30
  | [], vs, st, _, _, _, _, _ => ⟨st, vs, rfl, Agree.refl [] st, rfl, rfl, rfl⟩
  | p :: ps, vs, st, ht, hs, hp, h28, h29 => by
    have g28 : upd vs 9 (.d (litD x p.1 p.2)) 28 = some (.ref 2) := h28
    have g29 : upd vs 9 (.d (litD x p.1 p.2)) 29 = some (.ref u.s) := h29
    obtain ⟨g, eg⟩ := m_holds_eq (s := p.1) ht (by rw [hL]; exact hG) (by rw [hL]; exact hx) (hp p List.mem_cons_self)
    have hl := (win5 (hG.at hx).1).2
    have hGl := hG.1
    have t1 := t2_of (f := qNe) (vs := upd vs 9 (.d (litD x p.1 p.2))) (a := eMeth m_holds (eVar 28) [eVar 9]) (b := eCall f_law_said [eKey (eVar 29) 27, eVar 9]) (meth_of (var_of g28) ht (seq_cons (var_of rfl) seq_nil) eg) (call_of (seq_cons (skey_of (var_of g29) (hs.app g) rfl) (seq_cons (var_of rfl) seq_nil)) (law_said_eq hx (by omega) (by omega) _)) rfl rfl (qNe_ints _ _)
    rw [beq_self_eq_true] at t1
    obtain ⟨st', vs', r1, r2, r3, r4, r5⟩ := hold_loop hL hG hx ps (upd vs 9 (.d (litD x p.1 p.2))) (st ++ g) (ht.app g) (hs.app g) (fun q hq => hp q (List.mem_cons_of_mem _ hq)) g28 g29
    exact ⟨st', vs', forL_step rfl (q_skip t1 q_nil) r1, (Agree.app st g).trans r2, r3, r4, r5⟩
noncomputable def seenB : List PS := [sAssign 24 (eOp2 dItem (eKey (eVar 29) 27) (eVar 10)),
    sIf (tOr (tOp2 qNe (eMeth m_dom (eVar 28) [eVar 10]) (eCall f_law_ranges [eVar 24])) (tOp2 qNe (eMeth m_initial (eVar 28) [eVar 10]) (eCall f_law_ranges [eOp2 dItem (eVar 30) (eVar 10)]))) [sRet (eD (.bool false))] [],
    sIf (tOp2 qNe (eTup [eMeth m_low (eVar 28) [eVar 10], eMeth m_high (eVar 28) [eVar 10], eMeth m_width (eVar 28) [eVar 10]]) (eTup [eOp2 dItem (eVar 24) (eD (.int 0)), eOp2 dItem (eVar 24) (eOp1 dNeg (eD (.int 1))), eOp1 dLen (eVar 24)])) [sRet (eD (.bool false))] [],
    sIf (tOr (tOp2 qNe (eMeth m_is_fixed (eVar 28) [eVar 10]) (eOp2 (dB qEq) (eOp1 dLen (eVar 24)) (eD (.int 1)))) (tAnd (tOp2 qEq (eOp1 dLen (eVar 24)) (eD (.int 1))) (tOp2 qNe (eMeth m_value (eVar 28) [eVar 10]) (eOp2 dItem (eVar 24) (eD (.int 0)))))) [sRet (eD (.bool false))] [],
    sIf (tOp2 qNe (eComp (.one 1) (iRange2 (eOp1 dNeg (eD (.int 3))) (eD (.int 10))) [tVal (eMeth m_has (eVar 28) [eVar 10, eVar 1])] (eVar 1)) (eVar 24)) [sRet (eD (.bool false))] [],
    sFor (.one 9) (iVal litsE) holdB]
theorem iRange2_of {a b : PE} {vs : Vars} {st st1 st2 : St} {m : Int} {n : Nat} (h : a vs st = some (.d (.int m), st1)) (h2 : b vs st1 = some (.d (.int (m + n)), st2)) (hm : -1000 ≤ m) (hm2 : m ≤ 1000) (hn : n ≤ 1000) : iRange2 a b vs st = some (rangeL m n, st2) := by
  unfold iRange2; rw [h, Option.bind_some]; dsimp only; rw [h2, Option.bind_some]; dsimp only
  rw [if_pos (by rw [small_of (by omega) (by omega), small_of (by omega) (by omega)]; simp; omega)]
  congr 3
  omega
theorem seen_body {st : St} {t : Told} {u : Sta} {n x : Nat} {vs : Vars} (ht : TI st t) (hs : SI st u) (r : Rel t u n) (hx : x < u.L.length) (h28 : vs 28 = some (.ref 2)) (h29 : vs 29 = some (.ref u.s)) (h30 : vs 30 = some (.d (ownD t.F))) :
    ∃ st' vs', sSeq seenB (upd vs 10 (.d (.int (x : Int)))) st = some (.next, vs', st') ∧ Agree [] st st' ∧ vs' 28 = vs 28 ∧ vs' 29 = vs 29 ∧ vs' 30 = vs 30 := by
  have hGl := r.g.1
  have hGf := r.gF.1
  obtain ⟨l, hl⟩ : ∃ l, u.L[x]? = some l := ⟨_, List.getElem?_eq_getElem hx⟩
  obtain ⟨f, hf⟩ : ∃ f, t.F[x]? = some f := ⟨_, List.getElem?_eq_getElem (by rw [← r.len]; exact hx)⟩
  have htl : t.L[x]? = some l := by rw [r.L]; exact hl
  have gL : Good t.L := by rw [r.L]; exact r.g
  obtain ⟨w1, w2⟩ := r.g.at hl
  have w5 := (win5 w1).2
  have f5 := (win5 (r.gF.at hf).1).2
  obtain ⟨a, l', rfl⟩ : ∃ a l', l = a :: l' := by
    cases l with
    | nil => exact absurd rfl w2
    | cons a l' => exact ⟨a, l', rfl⟩
  let vs1 : Vars := upd (upd vs 10 (.d (.int (x : Int)))) 24 (.d (ilist (a :: l')))
  have g28 : vs1 28 = some (.ref 2) := h28
  have g29 : vs1 29 = some (.ref u.s) := h29
  have g30 : vs1 30 = some (.d (ownD t.F)) := h30
  have b1 : sAssign 24 (eOp2 dItem (eKey (eVar 29) 27) (eVar 10)) (upd vs 10 (.d (.int (x : Int)))) st = some (.next, vs1, st) := by
    unfold sAssign
    rw [op2_of (skey_of (var_of (show upd vs 10 (.d (.int (x : Int))) 29 = some (.ref u.s) from h29)) hs (show (staA u).lookup 27 = some (.d (ownD u.L)) from rfl)) (var_of rfl) rfl rfl (item_own hl (by omega))]; rfl
  obtain ⟨g1, e1⟩ := ranges_eq (l := a :: l') (by omega) st
  have tA := t2_of (f := qNe) (vs := vs1) (meth_of (var_of g28) ht (seq_cons (var_of (show vs1 10 = _ from rfl)) seq_nil) (m_dom_eq ht gL htl)) (call_of (seq_cons (var_of (show vs1 24 = _ from rfl)) seq_nil) e1) rfl rfl (qNe_self (nice_dom _) (by omega))
  have t1 := ht.app g1
  have s1 := hs.app g1
  obtain ⟨g2, e2⟩ := ranges_eq (l := f) (by omega) (st ++ g1)
  have tB := t2_of (f := qNe) (vs := vs1) (meth_of (var_of g28) t1 (seq_cons (var_of (show vs1 10 = _ from rfl)) seq_nil) (m_initial_eq t1 r.gF hf)) (call_of (seq_cons (op2_of (var_of g30) (var_of (show vs1 10 = _ from rfl)) rfl rfl (item_own hf (by omega))) seq_nil) e2) rfl rfl (qNe_self (nice_dom _) (by omega))
  have t2 := t1.app g2
  have s2 := s1.app g2
  have c1 := tor_of tA (fun _ => tB) (fun h => by cases h)
  have hlen : dLen (ilist (a :: l')) = some (.int ((a :: l').length : Int)) := by unfold ilist; rw [len_list (by rw [List.length_map]; omega), List.length_map]
  obtain ⟨z, hz⟩ : ∃ z, (a :: l').getLast? = some z := ⟨_, List.getLast?_eq_some_getLast (by simp)⟩
  have i0 : dItem (ilist (a :: l')) (.int 0) = some (.int a) := item_list (k := 0) rfl (by rw [List.length_map]; omega)
  have iz : dItem (ilist (a :: l')) (.int (-1)) = some (.int z) := item_list_last (by rw [List.getLast?_map, hz]; rfl) (by rw [List.length_map]; omega)
  have eA : ∀ st, eOp2 dItem (eVar 24) (eD (.int 0)) vs1 st = some (.d (.int a), st) := fun st => op2_of (var_of rfl) rfl rfl rfl i0
  have eL : ∀ st, eOp1 dLen (eVar 24) vs1 st = some (.d (.int ((a :: l').length : Int)), st) := fun st => op1_of (var_of rfl) rfl hlen
  have c2 := t2_of (f := qNe) (vs := vs1) (tup3_of (meth_of (var_of g28) t2 (seq_cons (var_of (show vs1 10 = _ from rfl)) seq_nil) (m_low_eq t2 gL htl)) (meth_of (var_of g28) t2 (seq_cons (var_of (show vs1 10 = _ from rfl)) seq_nil) (m_high_eq t2 gL htl hz)) (meth_of (var_of g28) t2 (seq_cons (var_of (show vs1 10 = _ from rfl)) seq_nil) (m_width_eq t2 gL htl))) (tup3_of (eA _) (op2_of (var_of (show vs1 24 = _ from rfl)) (op1_of (a := eD (.int 1)) rfl rfl (show dNeg (.int 1) = some (.int (-1)) from rfl)) rfl rfl iz) (eL _)) rfl rfl (qNe_self (Nice.tuple (n := 0) (by
    intro y hy
    simp only [List.mem_cons, List.not_mem_nil, or_false] at hy
    rcases hy with rfl | rfl | rfl <;> exact nice_int _ _)) (by omega))
  have e1E : ∀ st, eOp2 (dB qEq) (eOp1 dLen (eVar 24)) (eD (.int 1)) vs1 st = some (.d (.bool ((a :: l').length == 1)), st) := fun st => op2_of (eL st) rfl rfl rfl (by
    unfold dB; rw [qEq_ints]
    have : (((a :: l').length : Int) == 1) = ((a :: l').length == 1) := by
      rw [Bool.eq_iff_iff, beq_iff_eq, beq_iff_eq]; omega
    rw [this]; rfl)
  have tC := t2_of (f := qNe) (vs := vs1) (meth_of (var_of g28) t2 (seq_cons (var_of (show vs1 10 = _ from rfl)) seq_nil) (m_fixed_eq t2 gL htl)) (e1E _) rfl rfl (qNe_self (nice_bool 0 _) (by omega))
  have tD := t2_of (f := qEq) (vs := vs1) (st := st ++ g1 ++ g2) (b := eD (.int 1)) (eL _) rfl rfl rfl (qEq_ints _ _)
  have tE := t2_of (f := qNe) (vs := vs1) (meth_of (var_of g28) t2 (seq_cons (var_of (show vs1 10 = _ from rfl)) seq_nil) (m_value_eq t2 gL htl)) (eA _) rfl rfl (qNe_self (nice_int 0 _) (by omega))
  have tF := tand_of tD (fun _ => tE) (fun _ => rfl)
  rw [Bool.and_false] at tF
  have c3 := tor_of tC (fun _ => tF) (fun h => by cases h)
  have hc := comp_of (t := .one 1) (ifs := [tVal (eMeth m_has (eVar 28) [eVar 10, eVar 1])]) (elt := eVar 1) (iRange2_of (a := eOp1 dNeg (eD (.int 3))) (b := eD (.int 10)) (vs := vs1) (st := st ++ g1 ++ g2) (m := -3) (n := 13) (op1_of rfl rfl rfl) rfl (by omega) (by omega) (by omega)) (comp_pure (g := fun v : Int => PyData.int v) (xs := vList) (p := fun v => nextM (rangesM (a :: l')) v == some v) (f := fun v => .int v) fun v _ => ⟨_, rfl, ifs_one (tval_of (meth_of (var_of (show upd vs1 1 _ 28 = _ from h28)) t2 (seq_cons (var_of (show upd vs1 1 _ 10 = _ from rfl)) (seq_cons (var_of rfl) seq_nil)) (m_has_eq t2 gL htl))), fun _ => var_of rfl⟩)
  rw [win2 w1] at hc
  have c4 := t2_of (f := qNe) (vs := vs1) hc (var_of (show vs1 24 = _ from rfl)) rfl rfl (qNe_self (nice_il (a :: l')) (by omega))
  obtain ⟨st', vs', r1, r2, r3, r4, r5⟩ := hold_loop r.L r.g hl lits vs1 (st ++ g1 ++ g2) t2 s2 (by decide) g28 g29
  have c5 : sFor (.one 9) (iVal litsE) holdB vs1 (st ++ g1 ++ g2) = some (.next, vs', st') := for_of (iVal_list (lits_eq _ rfl) (by simp [lits])) r1
  exact ⟨st', vs', q_step b1 (q_skip c1 (q_skip c2 (q_skip c3 (q_skip c4 (q_step c5 q_nil))))), (((Agree.app st g1).trans (Agree.app _ g2))).trans r2, r3, r4, r5⟩
end Mine.Pure
end
section
set_option maxRecDepth 100000
namespace Mine.Pure
open PySem
theorem seen_loop {t : Told} {u : Sta} {n : Nat} (r : Rel t u n) : ∀ (m a : Nat) (vs : Vars) (st : St), TI st t → SI st u → a + m ≤ u.L.length → vs 28 = some (.ref 2) → vs 29 = some (.ref u.s) → vs 30 = some (.d (ownD t.F)) →
    ∃ st' vs', forL (.one 10) (sSeq seenB) (rangeL (a : Int) m) vs st = some (.next, vs', st') ∧ Agree [] st st' ∧ vs' 28 = vs 28 ∧ vs' 29 = vs 29 ∧ vs' 30 = vs 30
  | 0, a, vs, st, _, _, _, _, _, _ => ⟨st, vs, rfl, Agree.refl [] st, rfl, rfl, rfl⟩
  | m + 1, a, vs, st, ht, hs, hm, h28, h29, h30 => by
    obtain ⟨st1, vs1, b1, b2, b3, b4, b5⟩ := seen_body (x := a) ht hs r (by omega) h28 h29 h30
    have t1 := ht.keep b2 (by simp) (by simp) (by simp) (by simp) (by simp) (by simp) (by simp)
    have s1 := hs.keep b2 (by simp) (by simp)
    obtain ⟨st2, vs2, c1, c2, c3, c4, c5⟩ := seen_loop r m (a + 1) vs1 st1 t1 s1 (by omega) (b3.trans h28) (b4.trans h29) (b5.trans h30)
    exact ⟨st2, vs2, forL_step rfl b1 (by rw [show (a : Int) + 1 = ((a + 1 : Nat) : Int) by omega]; exact c1), b2.trans c2, c3.trans b3, c4.trans b4, c5.trans b5⟩
theorem nice_en {e : En} (h : Nice 2 (rsD e.rs)) : Nice 3 e.D := Nice.tuple (n := 2) (by
  intro y hy
  simp only [List.mem_cons, List.not_mem_nil, or_false] at hy
  rcases hy with rfl | rfl | rfl | rfl | rfl
  · exact nice_int _ _
  · exact nice_dom _
  · exact (nice_lit _ _ _).mono (by omega)
  · exact h
  · exact nice_int _ _)
theorem nice_trail {T : List En} (h : ∀ e ∈ T, Nice 2 (rsD e.rs)) : Nice 4 (trailD T) := Nice.list (n := 3) (by
  intro y hy
  obtain ⟨e, he, rfl⟩ := List.mem_map.mp hy
  exact nice_en (h e he))
theorem nice_own (L : List (List Int)) : Nice 2 (ownD L) := Nice.list (n := 1) (by
  intro y hy
  obtain ⟨e, he, rfl⟩ := List.mem_map.mp hy
  exact nice_il e)
theorem chain_mem : ∀ {R : List Mark} {L : List (List Int)} {T : List En}, Chain R L T → ∀ m ∈ R, ∀ e ∈ m.2, e ∈ T
  | [], _, _, _ => fun _ h => nomatch h
  | m :: R, L, T, h => by
    obtain ⟨⟨B, h1, h2⟩, h3⟩ := h
    have h0 : ∀ e ∈ m.2, e ∈ T := fun e he => by rw [h1]; exact List.mem_append_left _ he
    intro m' hm' e he
    rcases List.mem_cons.mp hm' with rfl | hm'
    · exact h0 e he
    · exact h0 e (chain_mem h3 m' hm' e he)
theorem nice_marks {R : List Mark} {L : List (List Int)} {T : List En} (h : Chain R L T) (hT : ∀ e ∈ T, Nice 2 (rsD e.rs)) : Nice 6 (.list (R.reverse.map markD)) := Nice.list (n := 5) (by
  intro y hy
  obtain ⟨m, hm, rfl⟩ := List.mem_map.mp hy
  refine Nice.tuple (n := 4) (by
    intro z hz
    simp only [List.mem_cons, List.not_mem_nil, or_false] at hz
    rcases hz with rfl | rfl
    · exact (nice_own _).mono (by omega)
    · exact nice_trail fun e he => hT e (chain_mem h m (List.mem_reverse.mp hm) e he)))
theorem seen_eq {st : St} {t : Told} {u : Sta} {cs : List Int} {b N : Int} {n : Nat} (j : J st t u cs b N) (r : Rel t u n) (hn : n ≤ 100) :
    ∃ st', f_law_is_seen [.ref 2, .ref u.s, .d (ownD t.F)] st = some (.d (.bool true), st') ∧ J st' t u cs b N := by
  let vs0 : Vars := upd (upd (upd (fun _ => none) 30 (.d (ownD t.F))) 29 (.ref u.s)) 28 (.ref 2)
  have hg := r.g.1
  have hf := r.gF.1
  have hrl := r.rl
  have hlF : dLen (ownD t.F) = some (.int (t.F.length : Int)) := by unfold ownD; rw [len_list (by rw [List.length_map]; omega), List.length_map]
  obtain ⟨st1, vs1, b1, b2, b3, b4, b5⟩ := seen_loop r t.F.length 0 vs0 st j.ti j.si (by rw [r.len]; omega) rfl rfl rfl
  have j1 := j.keep0 b2
  have f1 : sFor (.one 10) (iRange1 (eOp1 dLen (eVar 30))) seenB vs0 st = some (.next, vs1, st1) := for_of (iRange1_of (op1_of (var_of rfl) rfl hlF) (by omega)) b1
  have g28 : vs1 28 = some (.ref 2) := b3
  have g29 : vs1 29 = some (.ref u.s) := b4
  have g30 : vs1 30 = some (.d (ownD t.F)) := b5
  have e1 : eOp2 (dB qEq) (eAttr (eVar 28) 37) (eKey (eVar 29) 37) vs1 st1 = some (.d (.bool true), st1) :=
    op2_of (x := trailD u.T) (y := trailD u.T) (attr_of (var_of g28) j1.ti rfl) (skey_of (var_of g29) j1.si rfl) (by dsimp only [rd]; rw [j1.ti.tr, r.T]; rfl) rfl (by unfold dB; rw [qEq_self (nice_trail r.nr) (by omega)]; rfl)
  have hms : t.ms.length = u.R.length := by rw [r.ms]; simp
  have e2 : eOp2 (dB qEq) (eMeth m_depth (eVar 28) []) (eOp1 dLen (eKey (eVar 29) 38)) vs1 st1 = some (.d (.bool true), st1) :=
    op2_of (meth_of (var_of g28) j1.ti seq_nil (m_depth_eq j1.ti (by omega))) (op1_of (x := .list (u.R.reverse.map markD)) (skey_of (var_of g29) j1.si rfl) (by dsimp only [rd]; rw [j1.si.q]) (len_list (by rw [List.length_map, List.length_reverse]; omega))) rfl rfl (by unfold dB; rw [qEq_ints, hms, List.length_map, List.length_reverse, beq_self_eq_true]; rfl)
  have gL : Good t.L := by rw [r.L]; exact r.g
  have e3 : eOp2 (dB qEq) (eMeth m_size (eVar 28) []) (eOp1 dLen (eVar 30)) vs1 st1 = some (.d (.bool true), st1) :=
    op2_of (meth_of (var_of g28) j1.ti seq_nil (m_size_eq j1.ti gL)) (op1_of (var_of g30) rfl hlF) rfl rfl (by unfold dB; rw [qEq_ints, r.L, r.len, beq_self_eq_true]; rfl)
  exact ⟨st1, run_ret rfl (q_step f1 (q_ret (eand_of e1 (fun _ => eand_of e2 (fun _ => e3) (fun h => by cases h)) (fun h => by cases h)))), j1⟩
theorem Rel.mono {t : Told} {u : Sta} {n m : Nat} (r : Rel t u n) (h : n ≤ m) : Rel t u m := ⟨r.L, r.T, r.ms, r.ch, r.g, r.gF, r.len, r.en, r.nr, r.nw, r.ks, Nat.le_trans r.tl h, Nat.le_trans r.rl h⟩
theorem rel_enter {t : Told} {u : Sta} {n x : Nat} {s : Sg} {k : Int} {rs : Option (List PyData)} {spk : Int} {l : List Int} (r : Rel t u n) (hx : u.L[x]? = some l) (hr : Nice 2 (rsD rs)) : Rel (t.enter x s k rs spk l) (u.struck x s k rs spk l) (n + 1) := by
  unfold Told.enter Sta.struck
  cases c1 : l.filter (keepsM s k) == [] with
  | true =>
    rw [if_pos rfl, if_pos rfl]
    have r := r.mono (Nat.le_succ n)
    exact ⟨r.L, r.T, r.ms, r.ch, r.g, r.gF, r.len, r.en, r.nr, r.nw, r.ks, r.tl, r.rl⟩
  | false =>
    rw [if_neg (show ¬ (false = true) by simp), if_neg (show ¬ (false = true) by simp)]
    cases c2 : l.filter (keepsM s k) == l with
    | true => rw [if_pos rfl, if_pos rfl]; exact r.mono (Nat.le_succ n)
    | false =>
      rw [if_neg (show ¬ (false = true) by simp), if_neg (show ¬ (false = true) by simp)]
      have hxlt : x < u.L.length := (List.getElem?_eq_some_iff.mp hx).1
      have hg := r.g.1
      obtain ⟨k1, k2, k3, k4⟩ := keys_ok r.ks
      obtain ⟨k5, k6⟩ := k4 x (by omega)
      obtain ⟨w1, w2⟩ := r.g.at hx
      refine ⟨?_, ?_, r.ms, ?_, good_set r.g (List.filter_sublist.trans w1) (fun z => by rw [z] at c1; cases c1), r.gF, ?_, ?_, ?_, ?_, k5, ?_, Nat.le_succ_of_le r.rl⟩
      · show t.L.set x _ = _; rw [r.L]
      · show t.T ++ _ = _; rw [r.T]
      · exact chain_enter (e := ⟨x, l, s, k, rs, spk⟩) r.ch hx
      · show (u.L.set x _).length = _; rw [List.length_set]; exact r.len
      · intro e he
        show e.x < (u.L.set x _).length ∧ _
        rw [List.length_set]
        rcases List.mem_append.mp he with he | he
        · exact r.en e he
        · rw [List.mem_singleton] at he; subst he; exact ⟨hxlt, w1, w2⟩
      · intro e he
        rcases List.mem_append.mp he with he | he
        · exact r.nr e he
        · rw [List.mem_singleton] at he; subst he; exact hr
      · show foldI [] (u.nw ++ [(x : Int)]) = _; rw [r.nw, k6]
      · show (u.T ++ _).length ≤ _; simp; exact r.tl
end Mine.Pure
end
section
set_option maxRecDepth 100000
namespace Mine.Pure
open PySem
theorem J.draw {st st' : St} {t : Told} {u : Sta} {cs : List Int} {b N N' : Int} (j : J st t u cs b N) (a : Agree [0] st st') (f : Feed st' cs b N') : J st' t u cs b N' := by
  have hM : (0 : Nat) ≠ t.M := by have := j.ti.lm; omega
  have hN : (0 : Nat) ≠ t.N := by
    intro z
    obtain ⟨c, h1, _⟩ := j.fe
    have := j.ti.n
    rw [← z, h1] at this; cases this
  have hq : (0 : Nat) ≠ u.q := by have := j.si.lq; omega
  have hs : (0 : Nat) ≠ u.s := by have := j.si.ls; omega
  exact ⟨j.ti.keep a (by simp) (by simp) (by simp) (by simp) (by simp) (by simpa using Ne.symm hM) (by simpa using Ne.symm hN), j.si.keep a (by simpa using Ne.symm hq) (by simpa using Ne.symm hs), j.qM, f⟩
theorem J.le {st : St} {t : Told} {u : Sta} {cs : List Int} {b N N' : Int} (j : J st t u cs b N) (h : N ≤ N') : J st t u cs b N' := ⟨j.ti, j.si, j.qM, j.fe.le h⟩
theorem Same.refl (t : Told) (u : Sta) : Same t u t u := ⟨rfl, rfl, rfl, rfl⟩
theorem begunJ {st : St} {t : Told} {u : Sta} {cs : List Int} {b N : Int} {n : Nat} (j : J st t u cs b N) (r : Rel t u n) (hn : n ≤ 99) (hc : Calm t) :
    ∃ st' t' u', f_law_begun [.ref 2, .ref u.s] st = some (.d (.bool true), st') ∧ J st' t' u' cs b N ∧ Rel t' u' (n + 1) ∧ Same t u t' u' ∧ Calm t' ∧ u'.R ≠ [] := by
  have hms : t.ms.length = u.R.length := by rw [r.ms]; simp
  have htl := r.tl
  have hrl := r.rl
  obtain ⟨st', e, t1, s1, a⟩ := begun_eq j.ti j.si j.qM (by rw [r.T]; omega) (by omega) (by omega) hc.1
  have hM : (0 : Nat) ≠ t.M := by have := j.ti.lm; omega
  have hq : (0 : Nat) ≠ u.q := by have := j.si.lq; omega
  refine ⟨st', _, _, e, ⟨t1, s1, j.qM, j.fe.keep a (by simp; omega)⟩, ⟨r.L, r.T, ?_, ⟨⟨[], by simp, rfl⟩, r.ch⟩, r.g, r.gF, r.len, r.en, r.nr, r.nw, r.ks, Nat.le_succ_of_le r.tl, ?_⟩, ⟨rfl, rfl, rfl, rfl⟩, hc, by simp⟩
  · show t.ms ++ [t.T.length] = _
    rw [r.ms, r.T]; simp
  · show ((u.L, u.T) :: u.R).length ≤ _
    simp; exact r.rl
theorem enter_same (t : Told) (x : Nat) (s : Sg) (k : Int) (rs : Option (List PyData)) (spk : Int) (l : List Int) : (t.enter x s k rs spk l).M = t.M ∧ (t.enter x s k rs spk l).N = t.N ∧ (t.enter x s k rs spk l).F = t.F ∧ (t.enter x s k rs spk l).spk = t.spk := by
  unfold Told.enter
  split
  · exact ⟨rfl, rfl, rfl, rfl⟩
  · split <;> exact ⟨rfl, rfl, rfl, rfl⟩
theorem struck_same (u : Sta) (x : Nat) (s : Sg) (k : Int) (rs : Option (List PyData)) (spk : Int) (l : List Int) : (u.struck x s k rs spk l).q = u.q ∧ (u.struck x s k rs spk l).s = u.s ∧ (u.struck x s k rs spk l).R = u.R := by
  unfold Sta.struck
  split
  · exact ⟨rfl, rfl, rfl⟩
  · split <;> exact ⟨rfl, rfl, rfl⟩
noncomputable def DeedRes (t' : Told) (u' : Sta) (ans : Bool) (c : PyData) : Prop := t'.failed = !ans ∧ ((ans = true ∧ c = .none ∧ t'.clash = .tuple []) ∨ (ans = false ∧ ∃ xs, c = .tuple xs ∧ t'.clash = .tuple xs ∧ Nice 2 (.tuple xs) ∧ u'.R ≠ []))
theorem nice_neg (x : Int) (s : Sg) (k : Int) : Nice 1 (negD x s k) := by cases s <;> exact nice_lit _ _ _
theorem nice_clash {rs : Option (List PyData)} {x : Nat} {s : Sg} {k : Int} (h : ∀ y ∈ rs.getD [], Nice 1 y) : Nice 2 (.tuple (clashOf rs x s k)) := Nice.tuple (n := 1) (by
  intro y hy
  rcases List.mem_append.mp hy with hy | hy
  · exact h y hy
  · rw [List.mem_singleton] at hy; subst hy; exact nice_neg _ _ _)
theorem nice_rs {rs : Option (List PyData)} (h : ∀ y ∈ rs.getD [], Nice 1 y) : Nice 2 (rsD rs) := by
  cases rs with
  | none => exact nice_none _
  | some xs => exact Nice.tuple (n := 1) h
theorem enterJ {st st1 : St} {t : Told} {u : Sta} {cs : List Int} {b N : Int} {n x : Nat} {s : Sg} {k : Int} {rs : Option (List PyData)} {spk : Int} {l : List Int} (j : J st t u cs b N) (r : Rel t u n) (hn : n ≤ 90) (hc : Calm t) (hR : u.R ≠ []) (hx : u.L[x]? = some l) (hrs : (rs.getD []).length ≤ 100) (hr : ∀ y ∈ rs.getD [], Nice 1 y)
    (t1 : TI st1 (t.enter x s k rs spk l)) (a1 : Agree [1, 3, 5, t.N] st st1) :
    ∃ st' c, f_law_struck [.ref u.s, .d (litD x s k), .d (rsD rs), .d (.int spk)] st1 = some (.d c, st') ∧ J st' (t.enter x s k rs spk l) (u.struck x s k rs spk l) cs b N ∧ Rel (t.enter x s k rs spk l) (u.struck x s k rs spk l) (n + 1) ∧ Same t u (t.enter x s k rs spk l) (u.struck x s k rs spk l) ∧ DeedRes (t.enter x s k rs spk l) (u.struck x s k rs spk l) (!(l.filter (keepsM s k) == [])) c := by
  obtain ⟨m1, m2, m3, m4⟩ := enter_same t x s k rs spk l
  obtain ⟨m5, m6, m7⟩ := struck_same u x s k rs spk l
  have hq := j.si.lq
  have hs := j.si.ls
  have hqN := qN j.ti j.si
  have hsN := sN j.ti j.si
  have hN0 : (0 : Nat) ≠ t.N := by
    intro z
    obtain ⟨c, h1, _⟩ := j.fe
    have := j.ti.n
    rw [← z, h1] at this; cases this
  have s1 : SI st1 u := j.si.keep a1 (by simp; omega) (by simp; omega)
  have htl := r.tl
  obtain ⟨k1, k2, k3, k4⟩ := keys_ok r.ks
  obtain ⟨st', e, s2, a2⟩ := law_struck_eq (x := x) (s := s) (k := k) (rs := rs) (spk := spk) s1 r.g hx (by omega) (by rw [r.nw]; exact k2) (by rw [r.nw]; omega) hrs
  have t2 := t1.keep a2 (by simp; omega) (by simp; omega) (by simp; omega) (by simp; omega) (by simp; omega) (by rw [m1]; simpa using Ne.symm (sM j.ti j.si)) (by rw [m2]; simpa using Ne.symm hsN)
  refine ⟨st', _, e, ⟨t2, s2, by rw [m5, m1]; exact j.qM, (j.fe.keep a1 (by simp; omega)).keep a2 (by simp; omega)⟩, rel_enter r hx (nice_rs hr), ⟨m3, m5, m6, m4⟩, ?_⟩
  unfold DeedRes struckRes
  rw [m7]
  unfold Told.enter
  cases c1 : l.filter (keepsM s k) == [] with
  | true =>
    rw [if_pos rfl]
    exact ⟨rfl, .inr ⟨rfl, _, rfl, rfl, nice_clash hr, hR⟩⟩
  | false =>
    rw [if_neg (show ¬ (false = true) by simp), if_neg (show ¬ (false = true) by simp)]
    cases c2 : l.filter (keepsM s k) == l with
    | true => rw [if_pos rfl]; exact ⟨hc.1, .inl ⟨rfl, rfl, hc.2⟩⟩
    | false => rw [if_neg (show ¬ (false = true) by simp)]; exact ⟨hc.1, .inl ⟨rfl, rfl, hc.2⟩⟩
theorem reasons_eq {cs : List Int} {b : Int} {many : Nat} (hcs : cs.length ≤ 48) (hb : 0 ≤ b ∧ b ≤ 10000) (hm : 1 ≤ many ∧ many ≤ 3) : ∀ (m : Nat) (a N : Int) (vs : Vars) (st : St), vs 22 = some (.ref 0) → vs 23 = some (.d (.int (many : Int))) → Feed st cs b N → N + 3 * m ≤ 900 →
    ∃ rs st', compL (.one 31) [] (eCall f_law_literal [eVar 22, eVar 23]) (rangeL a m) vs st = some (rs, st') ∧ rs.length = m ∧ (∀ y ∈ rs, Nice 1 y) ∧ Agree [0] st st' ∧ Feed st' cs b (N + 3 * m)
  | 0, a, N, vs, st, _, _, f, _ => ⟨[], st, rfl, rfl, (fun _ h => nomatch h), Agree.refl _ st, f.le (by omega)⟩
  | m + 1, a, N, vs, st, h22, h23, f, hN => by
    obtain ⟨x, s, k, st1, _, _, e1, a1, f1⟩ := literal_eq (m := many) f (by omega) hcs hb hm
    obtain ⟨rs, st2, e2, h1, h2, a2, f2⟩ := reasons_eq hcs hb hm m (a + 1) (N + 3) vs st1 h22 h23 f1 (by omega)
    refine ⟨litD x s k :: rs, st2, ?_, by simp [h1], ?_, a1.trans a2, f2.le (by push_cast; omega)⟩
    · have c1 : eCall f_law_literal [eVar 22, eVar 23] (upd vs 31 (.d (.int a))) st = some (.d (litD x s k), st1) := call_of (seq_cons (var_of (show upd vs 31 (.d (.int a)) 22 = _ from h22)) (seq_cons (var_of (show upd vs 31 (.d (.int a)) 23 = _ from h23)) seq_nil)) e1
      rw [rangeL, compL]
      show (some (upd vs 31 (.d (.int a)))).bind _ = _
      rw [Option.bind_some, ifs_nil, Option.bind_some]
      dsimp only
      rw [if_pos rfl, c1, Option.bind_some]
      dsimp only [PV.data]
      rw [Option.bind_some, e2]; rfl
    · intro y hy
      rcases List.mem_cons.mp hy with rfl | hy
      · exact nice_lit _ _ _
      · exact h2 y hy
theorem fmt_lt {L : List (List Int)} {x : Nat} (h : x < L.length) : ∃ l, L[x]? = some l := ⟨_, List.getElem?_eq_getElem h⟩
theorem deed_eq {st : St} {t : Told} {u : Sta} {cs : List Int} {b N : Int} {n : Nat} (j : J st t u cs b N) (r : Rel t u n) (hn : n ≤ 90) (hN : N ≤ 800) (hcs : cs.length ≤ 48) (hb : 0 ≤ b ∧ b ≤ 10000) (hc : Calm t) (hR : u.R ≠ []) (hL : 1 ≤ u.L.length) :
    ∃ st' t' u' ans c, f_law_deed [.ref 0, .ref 2, .ref u.s, .d (.int (u.L.length : Int))] st = some (.d (.tuple [.bool ans, c]), st') ∧ J st' t' u' cs b (N + 11) ∧ Rel t' u' (n + 1) ∧ Same t u t' u' ∧ DeedRes t' u' ans c := by
  have hg := r.g.1
  have hrl := r.rl
  have htl := r.tl
  have hR1 : 1 ≤ u.R.length := List.length_pos_iff.mpr hR
  have gL : Good t.L := by rw [r.L]; exact r.g
  let vs0 : Vars := upd (upd (upd (upd (fun _ => none) 23 (.d (.int (u.L.length : Int)))) 29 (.ref u.s)) 28 (.ref 2)) 22 (.ref 0)
  obtain ⟨kd, st1, kd1, kd2, kd3, kd4, kd5⟩ := draw_call (vs := vs0) (e := eD (.int 8)) (m := 8) rfl (fun _ => rfl) j.fe (by omega) hcs hb (by omega)
  have j1 := j.draw kd4 kd5
  let vs1 : Vars := upd (upd vs0 32 (.d (.int kd))) 16 (.d (.int t.spk))
  have a1 : sAssignTup [32, 16] [eCall f_law_draw [eVar 22, eD (.int 8)], eAttr (eVar 28) 16] vs0 st = some (.next, vs1, st1) :=
    assignTup_of (seq_cons kd3 (seq_cons (attr_of (var_of rfl) j1.ti rfl) seq_nil)) rfl
  have q5 := t2_of (f := qEq) (vs := vs1) (st := st1) (a := eVar 32) (b := eD (.int 5)) (var_of rfl) rfl rfl rfl (qEq_ints kd 5)
  have q6 := t2_of (f := qEq) (vs := vs1) (st := st1) (a := eVar 32) (b := eD (.int 6)) (var_of rfl) rfl rfl rfl (qEq_ints kd 6)
  cases c5 : kd == 5 with
  | true =>
    rw [c5] at q5
    obtain ⟨st2, t2, u2, e2, j2, r2, sm, cm, _⟩ := begunJ j1 r (by omega) hc
    exact ⟨st2, t2, u2, true, .none, run_ret rfl (q_step a1 (q_stop (if_true q5 (q_ret (tup2_of (call_of (seq_cons (var_of rfl) (seq_cons (var_of rfl) seq_nil)) e2) rfl))))), j2.le (by omega), r2, sm, cm.1, .inl ⟨rfl, rfl, cm.2⟩⟩
  | false =>
  rw [c5] at q5
  cases c6 : kd == 6 with
  | true =>
    rw [c6] at q6
    have elen : ∀ st : St, SI st u → eOp1 dLen (eKey (eVar 29) 38) vs1 st = some (.d (.int (u.R.length : Int)), st) := fun st hs => op1_of (x := .list (u.R.reverse.map markD)) (skey_of (u := u) (var_of rfl) hs rfl) (by dsimp only [rd]; rw [hs.q]) (by rw [len_list (by rw [List.length_map, List.length_reverse]; omega), List.length_map, List.length_reverse])
    obtain ⟨z, st2, z1, z2, z3, z4, z5⟩ := draw_eq (m := (u.R.length : Int)) j1.fe (by omega) hcs hb (by omega)
    have j2 := j1.draw z4 z5
    obtain ⟨y, rfl⟩ := Int.eq_ofNat_of_zero_le z1
    obtain ⟨st3, t3, u3, e3, j3, r3, sm, cm⟩ := taken_eq (k := 1 + y) j2 r (by omega) (by omega)
    have ed : eOp2 dAdd (eD (.int 1)) (eCall f_law_draw [eVar 22, eOp1 dLen (eKey (eVar 29) 38)]) vs1 st1 = some (.d (.int ((1 + y : Nat) : Int)), st2) :=
      op2_of (p := .d (.int 1)) (st1 := st1) rfl (call_of (seq_cons (var_of rfl) (seq_cons (elen st1 j1.si) seq_nil)) z3) rfl rfl (by show some _ = some _; push_cast; rfl)
    exact ⟨st3, t3, u3, true, .none, run_ret rfl (q_step a1 (q_skip q5 (q_stop (if_true q6 (q_ret (tup2_of (call_of (seq_cons (var_of rfl) (seq_cons (var_of rfl) (seq_cons ed seq_nil))) e3) rfl)))))), j3.le (by omega), r3.mono (Nat.le_succ n), sm, cm.1, .inl ⟨rfl, rfl, cm.2⟩⟩
  | false =>
  rw [c6] at q6
  obtain ⟨x, s, k, st2, hx, hk, e2, a2, f2⟩ := literal_eq (m := u.L.length) j1.fe (by omega) hcs hb (by omega)
  have j2 := j1.draw a2 f2
  obtain ⟨l, hl⟩ := fmt_lt hx
  have hlt : t.L[x]? = some l := by rw [r.L]; exact hl
  let vs2 : Vars := upd vs1 9 (.d (litD x s k))
  have b2 : sAssign 9 (eCall f_law_literal [eVar 22, eVar 23]) vs1 st1 = some (.next, vs2, st2) := by
    unfold sAssign; rw [call_of (vs := vs1) (seq_cons (var_of rfl) (seq_cons (var_of rfl) seq_nil)) e2]; rfl
  have q3 := t2_of (f := qEq) (vs := vs2) (st := st2) (a := eVar 32) (b := eD (.int 3)) (var_of rfl) rfl rfl rfl (qEq_ints kd 3)
  obtain ⟨k1, _, _, _⟩ := keys_ok r.ks
  cases c3 : kd == 3 with
  | true =>
    rw [c3] at q3
    obtain ⟨st3, e3, t3, a3⟩ := decide_eq (s := s) j2.ti gL hlt hk (by rw [r.T]; omega) (by omega)
    obtain ⟨st4, c, e4, j4, r4, sm, dr⟩ := enterJ j2 r hn hc hR hl (rs := none) (by simp) (by simp) t3 a3
    exact ⟨st4, _, _, _, c, run_ret rfl (q_step a1 (q_skip q5 (q_skip q6 (q_step b2 (q_stop (if_true q3 (q_ret (tup2_of (meth_of (var_of rfl) j2.ti (seq_cons (var_of rfl) seq_nil) e3) (call_of (seq_cons (var_of rfl) (seq_cons (var_of rfl) (seq_cons rfl (seq_cons (op1_of rfl rfl rfl) seq_nil)))) e4))))))))), j4.le (by omega), r4, sm, dr⟩
  | false =>
  rw [c3] at q3
  obtain ⟨z, st3, z1, z2, z3, z4, z5⟩ := draw_call (vs := vs2) (e := eD (.int 3)) (m := 3) rfl (fun _ => rfl) j2.fe (by omega) hcs hb (by omega)
  have j3 := j2.draw z4 z5
  obtain ⟨y, rfl⟩ := Int.eq_ofNat_of_zero_le z1
  obtain ⟨rs, st4, e4, l4, n4, a4, f4⟩ := reasons_eq (many := u.L.length) hcs hb (by omega) y 0 _ vs2 st3 rfl rfl j3.fe (by omega)
  have j4 := j3.draw a4 f4
  let vs3 : Vars := upd vs2 15 (.d (.list rs))
  have b3 : sAssign 15 (eComp (.one 31) (iRange1 (eCall f_law_draw [eVar 22, eD (.int 3)])) [] (eCall f_law_literal [eVar 22, eVar 23])) vs2 st2 = some (.next, vs3, st4) := by
    unfold sAssign; rw [comp_of (iRange1_of z3 (by omega)) e4]; rfl
  have q7 := t2_of (f := qEq) (vs := vs3) (st := st4) (a := eVar 32) (b := eD (.int 7)) (var_of rfl) rfl rfl rfl (qEq_ints kd 7)
  have hdt : dTuple (.list rs) = some (.tuple rs) := by dsimp only [dTuple]; rw [if_pos (szOk_of (by omega))]
  have eT : ∀ st, eOp1 dTuple (eVar 15) vs3 st = some (.d (.tuple rs), st) := fun st => op1_of (var_of rfl) rfl hdt
  cases c7 : kd == 7 with
  | true =>
    rw [c7] at q7
    obtain ⟨st5, e5, t5, a5⟩ := fail_eq j4.ti hdt
    have j5 : J st5 { t with failed := true, clash := .tuple rs } u cs b (N + 11) :=
      ⟨t5, j4.si.keep a5 (by have := j4.si.lq; simp; omega) (by have := j4.si.ls; simp; omega), j4.qM, (j4.fe.keep a5 (by simp)).le (by omega)⟩
    have r' := r.mono (Nat.le_succ n)
    exact ⟨st5, _, u, false, .tuple rs, run_ret rfl (q_step a1 (q_skip q5 (q_skip q6 (q_step b2 (q_skip q3 (q_step b3 (q_stop (if_true q7 (q_ret (tup2_of (meth_of (var_of rfl) j4.ti (seq_cons (var_of rfl) seq_nil) e5) (eT _))))))))))), j5, ⟨r'.L, r'.T, r'.ms, r'.ch, r'.g, r'.gF, r'.len, r'.en, r'.nr, r'.nw, r'.ks, r'.tl, r'.rl⟩, ⟨rfl, rfl, rfl, rfl⟩, rfl, .inr ⟨rfl, rs, rfl, rfl, Nice.tuple (n := 1) n4, hR⟩⟩
  | false =>
  rw [c7] at q7
  obtain ⟨st5, e5, t5, a5⟩ := strike_eq (s := s) (rs := rs) j4.ti gL hlt hk (by rw [r.T]; omega) (by omega) (by omega)
  obtain ⟨st6, c, e6, j6, r6, sm, dr⟩ := enterJ j4 r hn hc hR hl (rs := some rs) (by show rs.length ≤ 100; omega) n4 t5 a5
  exact ⟨st6, _, _, _, c, run_ret rfl (q_step a1 (q_skip q5 (q_skip q6 (q_step b2 (q_skip q3 (q_step b3 (q_skip q7 (q_ret (tup2_of (meth_of (var_of rfl) j4.ti (seq_cons (var_of rfl) (seq_cons (var_of rfl) seq_nil)) e5) (call_of (seq_cons (var_of rfl) (seq_cons (var_of rfl) (seq_cons (eT _) (seq_cons (var_of rfl) seq_nil)))) e6)))))))))), j6.le (by omega), r6, sm, dr⟩
end Mine.Pure
end
section
set_option maxRecDepth 100000
namespace Mine.Pure
open PySem
theorem qEq_bools (a b : Bool) : qEq (.bool a) (.bool b) = some (a == b) := by rw [qEq_nice (nice_bool 0 a) (nice_bool 0 b) (by omega)]; simp [PyData.eqv]
theorem qNe_bools (a b : Bool) : qNe (.bool a) (.bool b) = some (!(a == b)) := by rw [qNe_nice (nice_bool 0 a) (nice_bool 0 b) (by omega)]; simp [PyData.eqv]
theorem eqv_nil (xs : List PyData) : PyData.eqv (.list xs) (.list []) = xs.isEmpty := by cases xs <;> simp [PyData.eqv, PyData.eqvAll]
theorem nice_nil (n : Nat) : Nice (n + 1) (.list []) := Nice.list fun _ h => nomatch h
theorem qEq_marks {R : List Mark} {L : List (List Int)} {T : List En} (h : Chain R L T) (hT : ∀ e ∈ T, Nice 2 (rsD e.rs)) : qEq (.list (R.reverse.map markD)) (.list []) = some R.isEmpty := by
  rw [qEq_nice (nice_marks h hT) (nice_nil 0) (by omega), eqv_nil]; simp
theorem qNe_marks {R : List Mark} {L : List (List Int)} {T : List En} (h : Chain R L T) (hT : ∀ e ∈ T, Nice 2 (rsD e.rs)) : qNe (.list (R.reverse.map markD)) (.list []) = some (!R.isEmpty) := by
  rw [qNe_nice (nice_marks h hT) (nice_nil 0) (by omega), eqv_nil]; simp
theorem changedJ {st : St} {t : Told} {u : Sta} {cs : List Int} {b N : Int} {n : Nat} (j : J st t u cs b N) (r : Rel t u n) (hc : Calm t) :
    ∃ st' t', m_changed [.ref 2] st = some (.d (ilist u.nw), st') ∧ J st' t' u cs b N ∧ Rel t' { u with nw := [] } n ∧ Same t u t' u ∧ Calm t' := by
  obtain ⟨k1, _, _, _⟩ := keys_ok r.ks
  obtain ⟨st', e, t1, a⟩ := changed_eq j.ti (by omega)
  rw [← r.nw] at e
  have hq := j.si.lq
  have hs := j.si.ls
  exact ⟨st', _, e, ⟨t1, j.si.keep a (by simp; omega) (by simp; omega), j.qM, j.fe.keep a (by simp)⟩, ⟨r.L, r.T, r.ms, r.ch, r.g, r.gF, r.len, r.en, r.nr, rfl, by simp [keyLists], r.tl, r.rl⟩, ⟨rfl, rfl, rfl, rfl⟩, hc⟩
theorem J.forget {st : St} {t : Told} {u : Sta} {cs : List Int} {b N : Int} (j : J st t u cs b N) : J (st.set u.s (.sdict (staA { u with nw := [] }))) t { u with nw := [] } cs b N := by
  have hs := j.si.ls
  have a : Agree [u.s] st (st.set u.s (.sdict (staA { u with nw := [] }))) := Agree.set _ _ _
  exact ⟨j.ti.keep a (by simp; omega) (by simp; omega) (by simp; omega) (by simp; omega) (by simp; omega) (by simpa using Ne.symm (sM j.ti j.si)) (by simpa using Ne.symm (sN j.ti j.si)), j.si.sets { u with nw := [] } rfl rfl rfl, j.qM, j.fe.keep a (by simp; omega)⟩
noncomputable def lapB : List PS := [sAttrSet (eVar 28) 16 (eVar 31),
    sIf (tAnd (tOp2 qEq (eKey (eVar 29) 38) (eLst [])) (tNot (tVal (eCall f_law_begun [eVar 28, eVar 29])))) [sRet (eD (.bool false))] [],
    sUnpack [34, 35] (eCall f_law_deed [eVar 22, eVar 28, eVar 29, eVar 23]),
    sIf (tOr (tNot (tVal (eOp1 dIsBool (eVar 34)))) (tOr (tOp2 qNe (eVar 34) (eOp2 (dB qIsNone) (eVar 35) (eD .none))) (tOp2 qEq (eAttr (eVar 28) 40) (eVar 34)))) [sRet (eD (.bool false))] [],
    sIf (tAnd (tOp2 qIsNotNone (eVar 35) (eD .none)) (tOr (tOp2 qNe (eAttr (eVar 28) 35) (eVar 35)) (tNot (tVal (eCall f_law_taken_back [eVar 28, eVar 29, eD (.int 1)]))))) [sRet (eD (.bool false))] [],
    sIf (tNot (tVal (eCall f_law_is_seen [eVar 28, eVar 29, eVar 30]))) [sRet (eD (.bool false))] [],
    sIf (tOp2 qEq (eCall f_law_draw [eVar 22, eD (.int 3)]) (eD (.int 0))) [sIf (tOp2 qNe (eMeth m_changed (eVar 28) []) (eKey (eVar 29) 39)) [sRet (eD (.bool false))] [],
    sKeySet (eVar 29) 39 (eLst [])] []]
structure VOk (vs : Vars) (s : Nat) (F : List (List Int)) : Prop where
  h22 : vs 22 = some (.ref 0)
  h23 : vs 23 = some (.d (.int (F.length : Int)))
  h28 : vs 28 = some (.ref 2)
  h29 : vs 29 = some (.ref s)
  h30 : vs 30 = some (.d (ownD F))
theorem lap_eq {vs : Vars} {F : List (List Int)} {st : St} {t : Told} {u : Sta} {cs : List Int} {b N i : Int} {n : Nat} (v : VOk vs u.s F) (j : J st t u cs b N) (r : Rel t u n) (hc : Calm t) (hF : t.F = F) (hn : n ≤ 80) (hN : N ≤ 700) (hcs : cs.length ≤ 48) (hb : 0 ≤ b ∧ b ≤ 10000) (hL : 1 ≤ F.length) :
    ∃ st' t' u' vs', sSeq lapB (upd vs 31 (.d (.int i))) st = some (.next, vs', st') ∧ VOk vs' u'.s F ∧ J st' t' u' cs b (N + 12) ∧ Rel t' u' (n + 2) ∧ Calm t' ∧ t'.F = F := by
  subst hF
  let vs1 : Vars := upd vs 31 (.d (.int i))
  have g22 : vs1 22 = some (.ref 0) := v.h22
  have g23 : vs1 23 = some (.d (.int (t.F.length : Int))) := v.h23
  have g28 : vs1 28 = some (.ref 2) := v.h28
  have g29 : vs1 29 = some (.ref u.s) := v.h29
  have g30 : vs1 30 = some (.d (ownD t.F)) := v.h30
  have b1 := attrSet_of (o := eVar 28) (e := eVar 31) (k := 16) (vs := vs1) (st := st) { t with spk := i } (v := .d (.int i)) rfl (var_of g28) j.ti rfl
  have j1 : J (st.set 1 (.sdict (attrs { t with spk := i }))) { t with spk := i } u cs b N := by
    have hq := j.si.lq
    have hs := j.si.ls
    have a : Agree [1] st (st.set 1 (.sdict (attrs { t with spk := i }))) := Agree.set _ _ _
    exact ⟨j.ti.seta { t with spk := i } rfl rfl rfl j.ti.m j.ti.n j.ti.lm, j.si.keep a (by simp; omega) (by simp; omega), j.qM, j.fe.keep a (by simp)⟩
  have r1 : Rel { t with spk := i } u n := ⟨r.L, r.T, r.ms, r.ch, r.g, r.gF, r.len, r.en, r.nr, r.nw, r.ks, r.tl, r.rl⟩
  generalize st.set 1 (.sdict (attrs { t with spk := i })) = st1 at b1 j1
  obtain ⟨st2, t2, u2, b2, j2, r2, sm2, c2, n2⟩ : ∃ st2 t2 u2, sIf (tAnd (tOp2 qEq (eKey (eVar 29) 38) (eLst [])) (tNot (tVal (eCall f_law_begun [eVar 28, eVar 29])))) [sRet (eD (.bool false))] [] vs1 st1 = some (.next, vs1, st2) ∧ J st2 t2 u2 cs b N ∧ Rel t2 u2 (n + 1) ∧ Same { t with spk := i } u t2 u2 ∧ Calm t2 ∧ u2.R ≠ [] := by
    have tq := t2_of (f := qEq) (a := eKey (eVar 29) 38) (b := eLst []) (vs := vs1) (st := st1) (x := .list (u.R.reverse.map markD)) (y := .list []) (skey_of (u := u) (var_of g29) j1.si rfl) (lst_of seq_nil rfl) (by dsimp only [rd]; rw [j1.si.q]) rfl (qEq_marks r.ch r.nr)
    cases hR : u.R with
    | nil =>
      rw [hR] at tq
      obtain ⟨st2, t2, u2, e, j2, r2, sm, c, n2⟩ := begunJ j1 r1 (by omega) hc
      exact ⟨st2, t2, u2, if_false (tand_of (x := true) (y := false) tq (fun _ => tnot_of (tval_of (call_of (seq_cons (var_of g28) (seq_cons (var_of g29) seq_nil)) e))) (fun h => by cases h)) rfl, j2, r2, sm, c, n2⟩
    | cons m R =>
      rw [hR] at tq
      exact ⟨st1, _, u, if_false (tand_of (x := false) (y := false) tq (fun h => by cases h) (fun _ => rfl)) rfl, j1, r1.mono (Nat.le_succ n), Same.refl _ _, hc, by rw [hR]; simp⟩
  have hlen2 : u2.L.length = t.F.length := by rw [r2.len, sm2.F]
  have s2 : u2.s = u.s := sm2.s
  have F2 : t2.F = t.F := sm2.F
  obtain ⟨st3, t3, u3, ans, c, e3, j3, r3, sm3, dr⟩ := deed_eq j2 r2 (by omega) (by omega) hcs hb c2 n2 (by omega)
  rw [hlen2, s2] at e3
  let vs3 : Vars := upd (upd vs1 34 (.d (.bool ans))) 35 (.d c)
  have b3 : sUnpack [34, 35] (eCall f_law_deed [eVar 22, eVar 28, eVar 29, eVar 23]) vs1 st2 = some (.next, vs3, st3) :=
    unpack_of (call_of (seq_cons (var_of g22) (seq_cons (var_of g28) (seq_cons (var_of g29) (seq_cons (var_of g23) seq_nil)))) e3) rfl
  have p22 : vs3 22 = some (.ref 0) := v.h22
  have p23 : vs3 23 = some (.d (.int (t.F.length : Int))) := v.h23
  have p28 : vs3 28 = some (.ref 2) := v.h28
  have p29 : vs3 29 = some (.ref u.s) := v.h29
  have p30 : vs3 30 = some (.d (ownD t.F)) := v.h30
  have s3 : u3.s = u.s := sm3.s.trans s2
  have F3 : t3.F = t.F := sm3.F.trans F2
  have hnone : dB qIsNone c .none = some (.bool ans) := by
    rcases dr.2 with ⟨rfl, rfl, _⟩ | ⟨rfl, xs, rfl, _⟩ <;> rfl
  have t4 : tOr (tNot (tVal (eOp1 dIsBool (eVar 34)))) (tOr (tOp2 qNe (eVar 34) (eOp2 (dB qIsNone) (eVar 35) (eD .none))) (tOp2 qEq (eAttr (eVar 28) 40) (eVar 34))) vs3 st3 = some (false, st3) := by
    refine tor_of (x := false) (y := false) (tnot_of (b := true) (tval_of (op1_of (var_of rfl) rfl rfl))) (fun _ => tor_of (x := false) (y := false) (t2_of (x := .bool ans) (y := .bool ans) (var_of rfl) (op2_of (var_of rfl) rfl rfl rfl hnone) rfl rfl (qNe_self (nice_bool 0 _) (by omega))) (fun _ => t2_of (x := .bool t3.failed) (y := .bool ans) (attr_of (var_of p28) j3.ti rfl) (var_of rfl) rfl rfl ?_) (fun h => by cases h)) (fun h => by cases h)
    rw [qEq_bools, dr.1]
    cases ans <;> rfl
  obtain ⟨st4, t4', u4, b4, j4, r4, s4, F4, c4⟩ : ∃ st4 t4' u4, sIf (tAnd (tOp2 qIsNotNone (eVar 35) (eD .none)) (tOr (tOp2 qNe (eAttr (eVar 28) 35) (eVar 35)) (tNot (tVal (eCall f_law_taken_back [eVar 28, eVar 29, eD (.int 1)]))))) [sRet (eD (.bool false))] [] vs3 st3 = some (.next, vs3, st4) ∧ J st4 t4' u4 cs b (N + 11) ∧ Rel t4' u4 (n + 2) ∧ u4.s = u.s ∧ t4'.F = t.F ∧ Calm t4' := by
    rcases dr.2 with ⟨ha, hcn, hcl⟩ | ⟨ha, xs, hcx, hcl, hnx, hR3⟩
    · subst hcn
      exact ⟨st3, t3, u3, if_false (tand_of (x := false) (y := false) (t2_of (x := .none) (y := .none) (var_of rfl) rfl rfl rfl rfl) (fun h => by cases h) (fun _ => rfl)) rfl, j3, r3, s3, F3, by rw [dr.1, ha]; rfl, hcl⟩
    · subst hcx
      have hR1 : 1 ≤ u3.R.length := List.length_pos_iff.mpr hR3
      obtain ⟨st4, t4', u4, e4, j4, r4, sm4, c4⟩ := taken_eq (k := 1) j3 r3 (by omega) (by omega)
      rw [s3] at e4
      refine ⟨st4, t4', u4, if_false (tand_of (x := true) (y := false) (t2_of (x := .tuple xs) (y := .none) (var_of rfl) rfl rfl rfl rfl) (fun _ => tor_of (x := false) (y := false) (t2_of (x := .tuple xs) (y := .tuple xs) (attr_of (v := .d (.tuple xs)) (var_of p28) j3.ti ?_) (var_of rfl) rfl rfl (qNe_self hnx (by omega))) (fun _ => tnot_of (tval_of (call_of (seq_cons (var_of p28) (seq_cons (var_of p29) (seq_cons rfl seq_nil))) e4))) (fun h => by cases h)) (fun h => by cases h)) rfl, j4, r4, sm4.s.trans s3, sm4.F.trans F3, c4⟩
      show some (PV.d t3.clash) = _
      rw [hcl]
  obtain ⟨st5, e5, j5⟩ := seen_eq j4 r4 (by omega)
  rw [s4, F4] at e5
  have t5 : tNot (tVal (eCall f_law_is_seen [eVar 28, eVar 29, eVar 30])) vs3 st4 = some (false, st5) := tnot_of (b := true) (tval_of (call_of (seq_cons (var_of p28) (seq_cons (var_of p29) (seq_cons (var_of p30) seq_nil))) e5))
  obtain ⟨z, st6, z1, z2, z3, a6, f6⟩ := draw_call (vs := vs3) (e := eD (.int 3)) (m := 3) p22 (fun _ => rfl) j5.fe (by omega) hcs hb (by omega)
  have j6 := (j5.draw a6 f6).le (N' := N + 12) (by omega)
  have t6 := t2_of (f := qEq) (b := eD (.int 0)) z3 rfl rfl rfl (qEq_ints z 0)
  cases c6 : z == 0 with
  | false =>
    rw [c6] at t6
    exact ⟨st6, t4', u4, vs3, q_step b1 (q_step b2 (q_step b3 (q_skip t4 (q_step b4 (q_skip t5 (q_skip t6 q_nil)))))), ⟨p22, p23, p28, by rw [s4]; exact p29, p30⟩, j6, r4, c4, F4⟩
  | true =>
    rw [c6] at t6
    obtain ⟨st7, t7, e7, j7, r7, sm7, c7⟩ := changedJ j6 r4 c4
    have p29' : vs3 29 = some (.ref u4.s) := by rw [s4]; exact p29
    have t8 := t2_of (f := qNe) (vs := vs3) (a := eMeth m_changed (eVar 28) []) (b := eKey (eVar 29) 39) (meth_of (var_of p28) j6.ti seq_nil e7) (skey_of (u := u4) (v := .d (ilist u4.nw)) (var_of p29') j7.si rfl) rfl rfl (qNe_self (nice_il _) (by omega))
    have b8 := skeySet_of (k := 39) (o := eVar 29) (e := eLst []) (vs := vs3) (st := st7) (u := u4) (v := .d (ilist [])) { u4 with nw := [] } (lst_of seq_nil rfl) (var_of p29') j7.si (w := .d (ilist u4.nw)) rfl rfl
    exact ⟨_, t7, { u4 with nw := [] }, vs3, q_step b1 (q_step b2 (q_step b3 (q_skip t4 (q_step b4 (q_skip t5 (q_step (if_true t6 (q_skip t8 (q_step b8 q_nil))) q_nil)))))), ⟨p22, p23, p28, p29', p30⟩, j7.forget, r7, c7, sm7.F.trans F4⟩
theorem lap_loop {F : List (List Int)} {cs : List Int} {b : Int} (hcs : cs.length ≤ 48) (hb : 0 ≤ b ∧ b ≤ 10000) (hL : 1 ≤ F.length) : ∀ (m : Nat) (a N : Int) (n : Nat) (vs : Vars) (st : St) (t : Told) (u : Sta), VOk vs u.s F → J st t u cs b N → Rel t u n → Calm t → t.F = F → n + 2 * m ≤ 80 → N + 12 * m ≤ 700 →
    ∃ st' t' u' vs', forL (.one 31) (sSeq lapB) (rangeL a m) vs st = some (.next, vs', st') ∧ VOk vs' u'.s F ∧ J st' t' u' cs b (N + 12 * m) ∧ Rel t' u' (n + 2 * m) ∧ Calm t' ∧ t'.F = F
  | 0, a, N, n, vs, st, t, u, v, j, r, c, hF, _, _ => ⟨st, t, u, vs, rfl, v, j.le (by omega), r.mono (by omega), c, hF⟩
  | m + 1, a, N, n, vs, st, t, u, v, j, r, c, hF, hn, hN => by
    obtain ⟨st1, t1, u1, vs1, e1, v1, j1, r1, c1, F1⟩ := lap_eq (i := a) v j r c hF (by omega) (by omega) hcs hb hL
    obtain ⟨st2, t2, u2, vs2, e2, v2, j2, r2, c2, F2⟩ := lap_loop hcs hb hL m (a + 1) (N + 12) (n + 2) vs1 st1 t1 u1 v1 j1 r1 c1 F1 (by omega) (by omega)
    exact ⟨st2, t2, u2, vs2, forL_step rfl e1 e2, v2, j2.le (by push_cast; omega), r2.mono (by omega), c2, F2⟩
end Mine.Pure
end
section
set_option maxRecDepth 100000
namespace Mine.Pure
open PySem
noncomputable def rangeI (a : Int) : Nat → List Int
  | 0 => []
  | n + 1 => a :: rangeI (a + 1) n
theorem rangeL_I : ∀ (n : Nat) (a : Int), rangeL a n = (rangeI a n).map .int
  | 0, _ => rfl
  | n + 1, a => by rw [rangeL, rangeI, rangeL_I n]; rfl
noncomputable def numM (p q g : Nat) : List Int := (rangeI ((p : Int) - 1) (1 + q)).filter fun v => !(v == (p : Int) - 1 + g)
noncomputable def numL (p q g : Nat) : List Int := if numM p q g == [] then [(p : Int) - 1] else numM p q g
noncomputable def chkN (p q g : Nat) : Bool := (numL p q g).isSublist win && !(numL p q g).isEmpty && decide ((numM p q g).length ≤ 8)
theorem allN : (List.range 4).all (fun p => (List.range 5).all fun q => (List.range 6).all fun g => chkN p q g) = true := by decide +kernel
theorem num_ok {p q g : Nat} (hp : p < 4) (hq : q < 5) (hg : g < 6) : (numL p q g).Sublist win ∧ numL p q g ≠ [] ∧ (numM p q g).length ≤ 8 := by
  have := List.all_eq_true.mp allN p (List.mem_range.mpr hp)
  have := List.all_eq_true.mp this q (List.mem_range.mpr hq)
  have := List.all_eq_true.mp this g (List.mem_range.mpr hg)
  unfold chkN at this
  simp only [Bool.and_eq_true] at this
  exact ⟨List.isSublist_iff_sublist.mp this.1.1, by intro z; rw [z] at this; exact absurd this.1.2 (by decide), of_decide_eq_true this.2⟩
theorem numbers_eq {st : St} {cs : List Int} {b N : Int} (h : Feed st cs b N) (hN : N ≤ 900) (hcs : cs.length ≤ 48) (hb : 0 ≤ b ∧ b ≤ 10000) :
    ∃ l st', f_law_numbers [.ref 0] st = some (.d (ilist l), st') ∧ l.Sublist win ∧ l ≠ [] ∧ Agree [0] st st' ∧ Feed st' cs b (N + 3) := by
  let vs0 : Vars := upd (fun _ => none) 22 (.ref 0)
  obtain ⟨r, st1, r1, r2, r3, r4, r5⟩ := draw_call (vs := vs0) (e := eD (.int 4)) (m := 4) rfl (fun _ => rfl) h (by omega) hcs hb (by omega)
  obtain ⟨p, rfl⟩ := Int.eq_ofNat_of_zero_le r1
  let vs1 : Vars := upd vs0 25 (.d (.int ((p : Int) - 1)))
  obtain ⟨r, st2, q1, q2, q3, q4, q5⟩ := draw_call (vs := vs1) (e := eD (.int 5)) (m := 5) rfl (fun _ => rfl) r5 (by omega) hcs hb (by omega)
  obtain ⟨q, rfl⟩ := Int.eq_ofNat_of_zero_le q1
  obtain ⟨r, st3, g1, g2, g3, g4, g5⟩ := draw_call (vs := vs1) (e := eD (.int 6)) (m := 6) rfl (fun _ => rfl) q5 (by omega) hcs hb (by omega)
  obtain ⟨g, rfl⟩ := Int.eq_ofNat_of_zero_le g1
  let vs2 : Vars := upd (upd vs1 23 (.d (.int ((1 + q : Nat) : Int)))) 26 (.d (.int (g : Int)))
  obtain ⟨k1, k2, k3⟩ := num_ok (p := p) (q := q) (g := g) (by omega) (by omega) (by omega)
  have a1 : sAssign 25 (eOp2 dSub (eCall f_law_draw [eVar 22, eD (.int 4)]) (eD (.int 1))) vs0 st = some (.next, vs1, st1) := by
    unfold sAssign; rw [op2_of r3 rfl rfl rfl rfl]; rfl
  have a2 : sAssignTup [23, 26] [eOp2 dAdd (eD (.int 1)) (eCall f_law_draw [eVar 22, eD (.int 5)]), eCall f_law_draw [eVar 22, eD (.int 6)]] vs1 st1 = some (.next, vs2, st3) :=
    assignTup_of (seq_cons (op2_of (p := .d (.int 1)) rfl q3 rfl rfl (show dAdd (.int 1) (.int (q : Int)) = some (.int ((1 + q : Nat) : Int)) by show some _ = some _; push_cast; rfl)) (seq_cons g3 seq_nil)) rfl
  have hc := comp_of (t := .one 1) (ifs := [tOp2 qNe (eVar 1) (eOp2 dAdd (eVar 25) (eVar 26))]) (elt := eVar 1) (iRange2_of (a := eVar 25) (b := eOp2 dAdd (eVar 25) (eVar 23)) (vs := vs2) (st := st3) (m := (p : Int) - 1) (n := 1 + q) (var_of rfl) (op2_of (var_of rfl) (var_of rfl) rfl rfl rfl) (by omega) (by omega) (by omega)) (by
    rw [rangeL_I]
    exact comp_pure (g := fun v : Int => PyData.int v) (p := fun v => !(v == (p : Int) - 1 + g)) (f := fun v => .int v) fun v _ => ⟨_, rfl, ifs_one (t2_of (var_of rfl) (op2_of (var_of rfl) (var_of rfl) rfl rfl rfl) rfl rfl (qNe_ints _ _)), fun _ => var_of rfl⟩)
  let vs3 : Vars := upd vs2 24 (.d (ilist (numM p q g)))
  have a3 : sAssign 24 (eComp (.one 1) (iRange2 (eVar 25) (eOp2 dAdd (eVar 25) (eVar 23))) [tOp2 qNe (eVar 1) (eOp2 dAdd (eVar 25) (eVar 26))] (eVar 1)) vs2 st3 = some (.next, vs3, st3) := by
    unfold sAssign; rw [hc]; rfl
  have tq := t2_of (f := qNe) (vs := vs3) (st := st3) (a := eVar 24) (b := eLst []) (y := ilist []) (var_of rfl) (lst_of seq_nil rfl) rfl rfl (qNe_il (numM p q g) [])
  have fin : eIf (tOp2 qNe (eVar 24) (eLst [])) (eVar 24) (eLst [eVar 25]) vs3 st3 = some (.d (ilist (numL p q g)), st3) := by
    unfold numL
    cases c : numM p q g == [] with
    | true =>
      rw [c] at tq
      rw [if_pos rfl]
      exact eif_false tq (lst_of (seq_cons (var_of rfl) seq_nil) rfl)
    | false =>
      rw [c] at tq
      rw [if_neg (show ¬ (false = true) by simp)]
      exact eif_true tq (var_of rfl)
  exact ⟨numL p q g, st3, run_ret rfl (q_step a1 (q_step a2 (q_step a3 (q_ret fin)))), k1, k2, (r4.trans q4).trans g4, g5.le (by omega)⟩
theorem firsts_loop {cs : List Int} {b : Int} (hcs : cs.length ≤ 48) (hb : 0 ≤ b ∧ b ≤ 10000) : ∀ (m : Nat) (a N : Int) (vs : Vars) (st : St), vs 22 = some (.ref 0) → Feed st cs b N → N + 3 * m ≤ 900 →
    ∃ (L : List (List Int)) (st' : St), compL (.one 31) [] (eCall f_law_numbers [eVar 22]) (rangeL a m) vs st = some (L.map ilist, st') ∧ L.length = m ∧ (∀ l ∈ L, l.Sublist win ∧ l ≠ []) ∧ Agree [0] st st' ∧ Feed st' cs b (N + 3 * m)
  | 0, a, N, vs, st, _, f, _ => ⟨[], st, rfl, rfl, (fun _ h => nomatch h), Agree.refl _ st, f.le (by omega)⟩
  | m + 1, a, N, vs, st, h22, f, hN => by
    obtain ⟨l, st1, e1, k1, k2, a1, f1⟩ := numbers_eq f (by omega) hcs hb
    obtain ⟨L, st2, e2, h1, h2, a2, f2⟩ := firsts_loop hcs hb m (a + 1) (N + 3) vs st1 h22 f1 (by omega)
    refine ⟨l :: L, st2, ?_, by simp [h1], ?_, a1.trans a2, f2.le (by push_cast; omega)⟩
    · have c1 : eCall f_law_numbers [eVar 22] (upd vs 31 (.d (.int a))) st = some (.d (ilist l), st1) := call_of (seq_cons (var_of (show upd vs 31 (.d (.int a)) 22 = _ from h22)) seq_nil) e1
      rw [rangeL, compL]
      show (some (upd vs 31 (.d (.int a)))).bind _ = _
      rw [Option.bind_some, ifs_nil, Option.bind_some]
      dsimp only
      rw [if_pos rfl, c1, Option.bind_some]
      dsimp only [PV.data]
      rw [Option.bind_some, e2]; rfl
    · intro y hy
      rcases List.mem_cons.mp hy with rfl | hy
      · exact ⟨k1, k2⟩
      · exact h2 y hy
theorem new_var_eq {st : St} {t : Told} {l : List Int} (h : TI st t) (hs : l.Sublist win) (hn : l ≠ []) (hL : t.L.length ≤ 100) (hF : t.F.length ≤ 100) :
    ∃ st', m_new_var [.ref 2, .d (domL l)] st = some (.d (.int (t.L.length : Int)), st') ∧ TI st' { t with L := t.L ++ [l], F := t.F ++ [l] } ∧ Agree [3, 4] st st' := by
  let vs0 : Vars := upd (upd (fun _ => none) 14 (.d (domL l))) 13 (.ref 2)
  have m3 : 3 ≠ t.M := by have := h.lm; omega
  have m4 : 4 ≠ t.M := by have := h.lm; omega
  obtain ⟨n1, n2, n3, n4, n5, nM⟩ := h.ne
  have b1 := append_attr (o := eAttr (eVar 13) 36) (e := eVar 14) (vs := vs0) (y := domL l) (attr_of (var_of rfl) h rfl) (var_of rfl) h.d (by rw [List.length_map]; omega)
  have t1 : TI (st.set 3 (.list (t.L.map domL ++ [domL l]))) { t with L := t.L ++ [l] } :=
    ⟨get_set_ne h.a (by decide), get_set_ne h.i (by decide), by rw [get_set_eq h.d, List.map_append]; rfl, get_set_ne h.f (by decide), get_set_ne h.tr (by decide), get_set_ne h.m m3, get_set_ne h.n (Ne.symm n3), h.lm⟩
  have b2 := append_attr (o := eAttr (eVar 13) 30) (e := eVar 14) (vs := vs0) (y := domL l) (attr_of (var_of rfl) t1 rfl) (var_of rfl) t1.f (by rw [List.length_map]; show t.F.length ≤ _; omega)
  have t2 : TI ((st.set 3 (.list (t.L.map domL ++ [domL l]))).set 4 (.list (t.F.map domL ++ [domL l]))) { t with L := t.L ++ [l], F := t.F ++ [l] } :=
    ⟨get_set_ne t1.a (by decide), get_set_ne t1.i (by decide), get_set_ne t1.d (by decide), by rw [get_set_eq t1.f, List.map_append]; rfl, get_set_ne t1.tr (by decide), get_set_ne t1.m m4, get_set_ne t1.n (Ne.symm n4), h.lm⟩
  obtain ⟨p, D, e⟩ := ranges_cons hs hn
  have tq := t2_of (f := qEq) (a := eVar 14) (b := eTup []) (vs := vs0) (st := (st.set 3 (.list (t.L.map domL ++ [domL l]))).set 4 (.list (t.F.map domL ++ [domL l]))) (y := dom []) (var_of rfl) (tup_of seq_nil rfl) rfl rfl (qEq_dom (rangesM l) [])
  rw [e, show (p :: D == []) = false from rfl] at tq
  refine ⟨_, run_ret rfl (q_step b1 (q_step b2 (q_skip tq (q_ret (op2_of (op1_of (attr_of (var_of rfl) t2 rfl) (by dsimp only [rd]; rw [t2.d]) (len_list (by rw [List.length_map]; simp; omega))) rfl rfl rfl ?_))))), t2, ((Agree.set _ 3 _).mono (by simp)).trans ((Agree.set _ 4 _).mono (by simp))⟩
  rw [List.length_map, List.length_append]
  show some _ = some _
  congr 2
  simp
theorem vars_loop : ∀ (ls : List (List Int)) (t : Told) (vs : Vars) (st : St), TI st t → (∀ l ∈ ls, l.Sublist win ∧ l ≠ []) → t.L.length + ls.length ≤ 90 → t.F.length + ls.length ≤ 90 → vs 28 = some (.ref 2) →
    ∃ st', compL (.one 24) [] (eMeth m_new_var (eVar 28) [eCall f_law_ranges [eVar 24]]) (ls.map ilist) vs st = some (rangeL (t.L.length : Int) ls.length, st') ∧ TI st' { t with L := t.L ++ ls, F := t.F ++ ls } ∧ Agree [3, 4] st st'
  | [], t, vs, st, h, _, _, _, _ => ⟨st, rfl, by simpa using h, Agree.refl _ st⟩
  | l :: ls, t, vs, st, h, hg, hL, hF, h28 => by
    simp only [List.length_cons] at hL hF
    obtain ⟨k1, k2⟩ := hg l List.mem_cons_self
    obtain ⟨g, e0⟩ := ranges_eq (l := l) (by have := (win5 k1).2; omega) st
    obtain ⟨st1, e1, t1, a1⟩ := new_var_eq (h.app g) k1 k2 (by omega) (by omega)
    obtain ⟨st2, e2, t2, a2⟩ := vars_loop ls _ vs st1 t1 (fun l' hl' => hg l' (List.mem_cons_of_mem _ hl')) (by show (t.L ++ [l]).length + _ ≤ _; simp; omega) (by show (t.F ++ [l]).length + _ ≤ _; simp; omega) h28
    have g28 : upd vs 24 (.d (ilist l)) 28 = some (.ref 2) := h28
    have c1 := meth_of (o := eVar 28) (es := [eCall f_law_ranges [eVar 24]]) (vs := upd vs 24 (.d (ilist l))) (var_of g28) h (seq_cons (call_of (seq_cons (var_of rfl) seq_nil) e0) seq_nil) e1
    refine ⟨st2, ?_, ?_, ((Agree.app st g).mono (by simp)).trans (a1.trans a2)⟩
    · rw [List.map_cons, compL]
      show (some (upd vs 24 (.d (ilist l)))).bind _ = _
      rw [Option.bind_some, ifs_nil, Option.bind_some]
      dsimp only
      rw [if_pos rfl, c1, Option.bind_some]
      dsimp only [PV.data]
      rw [Option.bind_some, e2]
      show some (_, _) = some (_, _)
      rw [List.length_cons, rangeL]
      have : (((t.L ++ [l]).length : Nat) : Int) = (t.L.length : Int) + 1 := by simp
      rw [this]
    · have := t2
      simp only [List.append_assoc, List.singleton_append] at this
      exact this
end Mine.Pure
end
section
set_option maxRecDepth 100000
namespace Mine.Pure
open PySem
theorem init_eq (o : PObj) : m__init__ [.ref 2] [o, .sdict [], .inst 1] = some (.d .none, [o, .sdict (attrs ⟨6, 7, -1, false, .tuple [], [], [], [], [], []⟩), .inst 1, .list [], .list [], .list [], .list [], .idict []]) := rfl
theorem blend_eq (l : List Int) : 0 ≤ (l.map fun c => Int.fmod (c.natAbs : Int) 97).sum ∧ (l.map fun c => Int.fmod (c.natAbs : Int) 97).sum ≤ 97 * l.length := by
  induction l with
  | nil => simp
  | cons a l ih =>
    have h1 := Int.fmod_nonneg_of_pos (a.natAbs : Int) (show (0 : Int) < 97 by omega)
    have h2 := Int.fmod_lt_of_pos (a.natAbs : Int) (show (0 : Int) < 97 by omega)
    simp only [List.map_cons, List.sum_cons, List.length_cons]
    push_cast
    omega
theorem law_pure (ns : List Int) (h : ns.length ≤ 63) : ∃ st', f_law [.d (.list (ns.map .int))] [] = some (.d (.bool true), st') := by
  let vs0 : Vars := upd (fun _ => none) 33 (.d (.list (ns.map .int)))
  let cs : List Int := ns.take 48
  let b : Int := (cs.map fun c => Int.fmod (c.natAbs : Int) 97).sum
  have hcs : cs.length ≤ 48 := by show (ns.take 48).length ≤ 48; rw [List.length_take]; omega
  have hb : 0 ≤ b ∧ b ≤ 10000 := by have := blend_eq cs; omega
  have tk : eOp2 dTake (eVar 33) (eD (.int 48)) vs0 [] = some (.d (ilist cs), []) :=
    op2_of (x := .list (ns.map .int)) (y := .int ((48 : Nat) : Int)) (var_of rfl) rfl rfl rfl ((take_of (by omega) (by rw [List.length_map]; omega)).trans (by rw [← List.map_take]; rfl))
  have bl : eOp1 dSum (eComp (.one 44) (iVal (eOp2 dTake (eVar 33) (eD (.int 48)))) [] (eOp2 dMod (eOp1 dAbs (eVar 44)) (eD (.int 97)))) vs0 [] = some (.d (.int b), []) := by
    have c := comp_of (t := .one 44) (ifs := []) (elt := eOp2 dMod (eOp1 dAbs (eVar 44)) (eD (.int 97))) (iVal_list (xs := cs.map .int) tk (by rw [List.length_map]; omega)) (comp_pure (g := fun v : Int => PyData.int v) (p := fun _ => true) (f := fun v => .int (Int.fmod (v.natAbs : Int) 97)) fun v _ => ⟨_, rfl, ifs_nil, fun _ => op2_of (op1_of (var_of rfl) rfl rfl) rfl rfl rfl (mod_of (by omega) (by omega))⟩)
    rw [filter_true] at c
    refine op1_of c rfl ?_
    have := ints_map (cs.map fun c => Int.fmod (c.natAbs : Int) 97)
    rw [List.map_map] at this
    show (ints? (cs.map fun v => PyData.int (Int.fmod (v.natAbs : Int) 97))).map _ = _
    rw [show (cs.map fun v => PyData.int (Int.fmod (v.natAbs : Int) 97)) = cs.map (PyData.int ∘ fun c => Int.fmod (c.natAbs : Int) 97) from rfl, this]; rfl
  let vs1 : Vars := upd vs0 22 (.ref 0)
  have a1 : sAssign 22 (eDict [41, 42, 43] [eOp2 dTake (eVar 33) (eD (.int 48)), eD (.int 0), eOp1 dSum (eComp (.one 44) (iVal (eOp2 dTake (eVar 33) (eD (.int 48)))) [] (eOp2 dMod (eOp1 dAbs (eVar 44)) (eD (.int 97))))]) vs0 [] = some (.next, vs1, [.sdict (feedD cs 0 b)]) := by
    unfold sAssign eDict
    rw [seq_cons tk (seq_cons (v := .d (.int 0)) (st1 := []) rfl (seq_cons bl seq_nil))]; rfl
  let t0 : Told := ⟨6, 7, -1, false, .tuple [], [], [], [], [], []⟩
  let st1 : St := [.sdict (feedD cs 0 b), .sdict (attrs t0), .inst 1, .list [], .list [], .list [], .list [], .idict []]
  have en : eNew m__init__ vs1 [.sdict (feedD cs 0 b)] = some (.ref 2, st1) := by
    unfold eNew
    show (m__init__ [.ref 2] [.sdict (feedD cs 0 b), .sdict [], .inst 1]).bind _ = _
    rw [init_eq]; rfl
  have ti1 : TI st1 t0 := ⟨rfl, rfl, rfl, rfl, rfl, rfl, rfl, by decide⟩
  have fe1 : Feed st1 cs b 0 := ⟨0, rfl, by omega, by omega⟩
  obtain ⟨z, st2, z1, z2, z3, ag2, fe2⟩ := draw_call (vs := vs1) (e := eD (.int 2)) (m := 2) rfl (fun _ => rfl) fe1 (by omega) hcs hb (by omega)
  obtain ⟨y, rfl⟩ := Int.eq_ofNat_of_zero_le z1
  have ti2 : TI st2 t0 := ti1.keep ag2 (by simp) (by simp) (by simp) (by simp) (by simp) (by simp [t0]) (by simp [t0])
  let vs2 : Vars := upd (upd vs1 28 (.ref 2)) 23 (.d (.int ((2 + y : Nat) : Int)))
  have a2 : sAssignTup [28, 23] [eNew m__init__, eOp2 dAdd (eD (.int 2)) (eCall f_law_draw [eVar 22, eD (.int 2)])] vs1 [.sdict (feedD cs 0 b)] = some (.next, vs2, st2) :=
    assignTup_of (seq_cons en (seq_cons (op2_of (p := .d (.int 2)) rfl z3 rfl rfl (show dAdd (.int 2) (.int (y : Int)) = some (.int ((2 + y : Nat) : Int)) by show some _ = some _; push_cast; rfl)) seq_nil)) rfl
  obtain ⟨F, st3, e3, hFl, hFg, ag3, fe3⟩ := firsts_loop hcs hb (2 + y) 0 (0 + 1) vs2 st2 rfl fe2 (by push_cast; omega)
  have ti3 : TI st3 t0 := ti2.keep ag3 (by simp) (by simp) (by simp) (by simp) (by simp) (by simp [t0]) (by simp [t0])
  let vs3 : Vars := upd vs2 30 (.d (ownD F))
  have a3 : sAssign 30 (eComp (.one 31) (iRange1 (eVar 23)) [] (eCall f_law_numbers [eVar 22])) vs2 st2 = some (.next, vs3, st3) := by
    unfold sAssign; rw [comp_of (iRange1_of (var_of rfl) (by omega)) e3]; rfl
  have hGF : Good F := ⟨by omega, hFg⟩
  obtain ⟨st4, e4, ti4, ag4⟩ := vars_loop F t0 vs3 st3 ti3 hFg (by show 0 + F.length ≤ 90; omega) (by show 0 + F.length ≤ 90; omega) rfl
  have fe4 := fe3.keep ag4 (by simp)
  have nr : Nice 1 (.list (rangeL 0 F.length)) := by rw [rangeL_I]; exact nice_il _
  have t4 := t2_of (f := qNe) (vs := vs3) (st := st3) (b := eListRange (eVar 23)) (comp_of (iVal_list (e := eVar 30) (xs := F.map ilist) (var_of rfl) (by rw [List.length_map]; omega)) e4) (by unfold eListRange; rw [iRange1_of (n := F.length) (vs := vs3) (e := eVar 23) (st := st4) (st1 := st4) (by rw [hFl]; exact var_of rfl) (by omega)]; rfl) rfl rfl (qNe_self nr (by omega))
  have l4 : 7 < st4.length := lt_of_get ti4.n
  let u5 : Sta := ⟨st4.length, st4.length + 1, F, [], [], []⟩
  let st5 : St := st4 ++ [.list []] ++ [.sdict (staA u5)]
  let vs5 : Vars := upd vs3 29 (.ref (st4.length + 1))
  have a5 : sAssign 29 (eDict [27, 37, 38, 39] [eVar 30, eLst [], eNewList, eLst []]) vs3 st4 = some (.next, vs5, st5) := by
    unfold sAssign eDict
    rw [seq_cons (v := .d (ownD F)) (st1 := st4) rfl (seq_cons (v := .d (.list [])) (st1 := st4) rfl (seq_cons (v := .ref st4.length) (st1 := st4 ++ [.list []]) rfl (seq_cons (v := .d (.list [])) (st1 := st4 ++ [.list []]) rfl seq_nil)))]
    show some (PFlow.next, upd vs3 29 (.ref (st4 ++ [PObj.list []]).length), _) = _
    rw [List.length_append]; rfl
  let t5 : Told := ⟨6, 7, -1, false, .tuple [], F, F, [], [], []⟩
  have j5 : J st5 t5 u5 cs b 10 := by
    refine ⟨(ti4.app [.list []]).app _, ⟨?_, ?_, l4, Nat.lt_succ_of_lt l4⟩, by show st4.length ≠ 6; omega, ((fe4.keep (Agree.app st4 _) (by simp)).keep (Agree.app _ _) (by simp)).le (by omega)⟩
    · show ((st4 ++ [PObj.list []]) ++ [PObj.sdict (staA u5)])[st4.length]? = _
      rw [List.getElem?_append_left (by simp), last_get]; rfl
    · show ((st4 ++ [PObj.list []]) ++ [PObj.sdict (staA u5)])[st4.length + 1]? = _
      have := last_get (st4 ++ [PObj.list []]) (.sdict (staA u5))
      rw [List.length_append] at this
      exact this
  have r5 : Rel t5 u5 0 := ⟨rfl, rfl, rfl, trivial, hGF, hGF, rfl, (fun _ h => nomatch h), (fun _ h => nomatch h), rfl, by simp [t5, keyLists], Nat.le_refl _, Nat.le_refl _⟩
  have v5 : VOk vs5 u5.s F := ⟨rfl, by rw [hFl]; rfl, rfl, rfl, rfl⟩
  obtain ⟨st6, t6, u6, vs6, e6, v6, j6, r6, c6, F6⟩ := lap_loop hcs hb (by omega) 9 0 10 0 vs5 st5 t5 u5 v5 j5 r5 ⟨rfl, rfl⟩ rfl (by omega) (by omega)
  have a6 : sFor (.one 31) (iRange1 (eD (.int 9))) lapB vs5 st5 = some (.next, vs6, st6) := for_of (iRange1_of (n := 9) rfl (by omega)) e6
  have rl6 := r6.rl
  obtain ⟨st7, t7, u7, e7, j7, r7, s7, F7⟩ : ∃ st7 t7 u7, sIf (tAnd (tOp2 qNe (eKey (eVar 29) 38) (eLst [])) (tNot (tVal (eCall f_law_taken_back [eVar 28, eVar 29, eOp1 dLen (eKey (eVar 29) 38)])))) [sRet (eD (.bool false))] [] vs6 st6 = some (.next, vs6, st7) ∧ J st7 t7 u7 cs b 400 ∧ Rel t7 u7 18 ∧ u7.s = u6.s ∧ t7.F = F := by
    have tq := t2_of (f := qNe) (a := eKey (eVar 29) 38) (b := eLst []) (vs := vs6) (st := st6) (x := .list (u6.R.reverse.map markD)) (y := .list []) (skey_of (u := u6) (var_of v6.h29) j6.si rfl) (lst_of seq_nil rfl) (by dsimp only [rd]; rw [j6.si.q]) rfl (qNe_marks r6.ch r6.nr)
    cases hR : u6.R with
    | nil =>
      rw [hR] at tq
      exact ⟨st6, t6, u6, if_false (tand_of (x := false) (y := false) tq (fun h => by cases h) (fun _ => rfl)) rfl, j6.le (by omega), r6.mono (by omega), rfl, F6⟩
    | cons m R =>
      rw [hR] at tq
      have hR1 : 1 ≤ u6.R.length := by rw [hR]; simp
      obtain ⟨st7, t7, u7, e7, j7, r7, sm7, _⟩ := taken_eq (k := u6.R.length) j6 r6 (by omega) ⟨hR1, Nat.le_refl _⟩
      have elen : eOp1 dLen (eKey (eVar 29) 38) vs6 st6 = some (.d (.int (u6.R.length : Int)), st6) := op1_of (x := .list (u6.R.reverse.map markD)) (skey_of (u := u6) (var_of v6.h29) j6.si rfl) (by dsimp only [rd]; rw [j6.si.q]) (by rw [len_list (by rw [List.length_map, List.length_reverse]; omega), List.length_map, List.length_reverse])
      exact ⟨st7, t7, u7, if_false (tand_of (x := true) (y := false) tq (fun _ => tnot_of (tval_of (call_of (seq_cons (var_of v6.h28) (seq_cons (var_of v6.h29) (seq_cons elen seq_nil))) e7))) (fun h => by cases h)) rfl, j7.le (by omega), r7.mono (by omega), sm7.s, sm7.F.trans F6⟩
  obtain ⟨st8, e8, j8⟩ := seen_eq j7 r7 (by omega)
  rw [F7, s7] at e8
  obtain ⟨k1, _, _, _⟩ := keys_ok r7.ks
  obtain ⟨st9, e9, ti9, ag9⟩ := changed_eq j8.ti (by omega)
  rw [← r7.nw] at e9
  have si9 : SI st9 u7 := j8.si.keep ag9 (by have := j8.si.lq; simp; omega) (by have := j8.si.ls; simp; omega)
  have w29 : vs6 29 = some (.ref u7.s) := by rw [s7]; exact v6.h29
  refine ⟨st9, run_ret rfl (q_step a1 (q_step a2 (q_step a3 (q_skip t4 (q_step a5 (q_step a6 (q_step e7 (q_ret (eand_of (x := true) (y := true) (call_of (seq_cons (var_of v6.h28) (seq_cons (var_of v6.h29) (seq_cons (var_of v6.h30) seq_nil))) e8) (fun _ => op2_of (meth_of (var_of v6.h28) j8.ti seq_nil e9) (skey_of (u := u7) (v := .d (ilist u7.nw)) (var_of w29) si9 rfl) rfl rfl ?_) (fun h => by cases h))))))))))⟩
  unfold dB
  rw [qEq_self (nice_il _) (by omega)]; rfl
end Mine.Pure
end
section
namespace Mine
open PySem PyProof.Rows
noncomputable def names : List String := ["d", "v", "low", "high", "k", "e", "found", "i", "j", "literal", "x", "sign", "kept", "self", "domain", "reasons", "speaker", "old", "fresh", "n", "mark", "entry",
  "feed", "many", "some", "begin", "gone", "own", "told", "state", "firsts", "lap", "kind", "script", "answer", "clash", "domains", "trail", "marks", "news", "is_failed", "cells", "count", "blend", "cell"]
noncomputable def nN : Nat := 45
noncomputable def nm (k : Nat) : Str := Str.ofString (names.getD k "?")
theorem nm_inj' : ((List.range nN).all fun j => (List.range nN).all fun k => decide (nm j = nm k → j = k)) = true := by decide +kernel
theorem nm_inj {j k : Nat} (hj : j < nN) (hk : k < nN) (e : nm j = nm k) : j = k := by
  have h1 := List.all_eq_true.mp nm_inj' j (List.mem_range.mpr hj)
  have h2 := List.all_eq_true.mp h1 k (List.mem_range.mpr hk)
  exact of_decide_eq_true h2 e
structure Al where
  hs : List Addr
  ex : List Addr
noncomputable def Al.all (α : Al) : List Addr := α.hs ++ α.ex
noncomputable def Al.add (α : Al) (a : Addr) : Al := ⟨α.hs ++ [a], α.ex⟩
theorem Al.off {α : Al} {a : Addr} (h : a ∉ α.all) : a ∉ α.hs := fun m => h (List.mem_append_left _ m)
theorem Al.mem {α : Al} {a : Addr} (h : a ∈ α.hs) : a ∈ α.all := List.mem_append_left _ h
mutual
inductive Rep (h : Heap) (α : Al) : Value → PyData → Prop
  | none : Rep h α .none .none
  | bool (b) : Rep h α (.bool b) (.bool b)
  | int (i t) : Rep h α (.int i t) (.int i)
  | str (x t) : Rep h α (.str x t) (.str x)
  | list {a vs n xs} : h.get? a = some { cls := .type "list", data := .seq vs n } → a ∉ α.all → Reps h α vs.toList xs → Rep h α (.ref a) (.list xs)
  | tuple {a vs n xs} : h.get? a = some { cls := .type "tuple", data := .seq vs n } → a ∉ α.all → Reps h α vs.toList xs → Rep h α (.ref a) (.tuple xs)
inductive Reps (h : Heap) (α : Al) : List Value → List PyData → Prop
  | nil : Reps h α [] []
  | cons {v vs x xs} : Rep h α v x → Reps h α vs xs → Reps h α (v :: vs) (x :: xs)
end
inductive TopR (h : Heap) (α : Al) : Value → PyData → Prop
  | none : TopR h α .none .none
  | bool (b) : TopR h α (.bool b) (.bool b)
  | int (i t) : TopR h α (.int i t) (.int i)
  | str (x t) : TopR h α (.str x t) (.str x)
  | list {a vs n xs} : h.get? a = some { cls := .type "list", data := .seq vs n } → Reps h α vs.toList xs → TopR h α (.ref a) (.list xs)
  | tuple {a vs n xs} : h.get? a = some { cls := .type "tuple", data := .seq vs n } → a ∉ α.all → Reps h α vs.toList xs → TopR h α (.ref a) (.tuple xs)
theorem Rep.top {h : Heap} {α : Al} {v : Value} {x : PyData} (r : Rep h α v x) : TopR h α v x := by
  cases r with
  | none => exact .none
  | bool b => exact .bool b
  | int i t => exact .int i t
  | str x t => exact .str x t
  | list h1 _ h3 => exact .list h1 h3
  | tuple h1 h2 h3 => exact .tuple h1 h2 h3
mutual
theorem Rep.reads {h : Heap} {α : Al} : ∀ {v : Value} {x : PyData}, Rep h α v x → ∃ as, Reads h v x as
  | _, _, .none => ⟨_, .none⟩
  | _, _, .bool b => ⟨_, .bool b⟩
  | _, _, .int i t => ⟨_, .int i t⟩
  | _, _, .str x t => ⟨_, .str x t⟩
  | _, _, .list h1 _ h3 => let ⟨_, r⟩ := Reps.reads h3; ⟨_, .list h1 rfl rfl r⟩
  | _, _, .tuple h1 _ h3 => let ⟨_, r⟩ := Reps.reads h3; ⟨_, .tuple h1 rfl rfl r⟩
theorem Reps.reads {h : Heap} {α : Al} : ∀ {vs : List Value} {xs : List PyData}, Reps h α vs xs → ∃ as, ReadsAll h vs xs as
  | _, _, .nil => ⟨_, .nil⟩
  | _, _, .cons r rs => let ⟨_, a⟩ := Rep.reads r; let ⟨_, b⟩ := Reps.reads rs; ⟨_, .cons a b⟩
end
theorem TopR.reads {h : Heap} {α : Al} {v : Value} {x : PyData} (r : TopR h α v x) : ∃ as, Reads h v x as := by
  cases r with
  | none => exact ⟨_, .none⟩
  | bool b => exact ⟨_, .bool b⟩
  | int i t => exact ⟨_, .int i t⟩
  | str x t => exact ⟨_, .str x t⟩
  | list h1 h3 => obtain ⟨_, r⟩ := h3.reads; exact ⟨_, .list h1 rfl rfl r⟩
  | tuple h1 _ h3 => obtain ⟨_, r⟩ := h3.reads; exact ⟨_, .tuple h1 rfl rfl r⟩
noncomputable def isSeq (o : Obj) : Prop := ∃ vs n, o.data = .seq vs n
structure KeepS (h : Heap) (α : Al) (h' : Heap) (α' : Al) : Prop where
  seq : ∀ a o, a ∉ α.all → isSeq o → h.get? a = some o → h'.get? a = some o
  off : ∀ a o, a ∉ α.all → isSeq o → h.get? a = some o → a ∉ α'.all
mutual
theorem Rep.keep {h h' : Heap} {α α' : Al} (K : KeepS h α h' α') : ∀ {v : Value} {x : PyData}, Rep h α v x → Rep h' α' v x
  | _, _, .none => .none
  | _, _, .bool b => .bool b
  | _, _, .int i t => .int i t
  | _, _, .str x t => .str x t
  | _, _, .list h1 h2 h3 => .list (K.seq _ _ h2 ⟨_, _, rfl⟩ h1) (K.off _ _ h2 ⟨_, _, rfl⟩ h1) (Reps.keep K h3)
  | _, _, .tuple h1 h2 h3 => .tuple (K.seq _ _ h2 ⟨_, _, rfl⟩ h1) (K.off _ _ h2 ⟨_, _, rfl⟩ h1) (Reps.keep K h3)
theorem Reps.keep {h h' : Heap} {α α' : Al} (K : KeepS h α h' α') : ∀ {vs : List Value} {xs : List PyData}, Reps h α vs xs → Reps h' α' vs xs
  | _, _, .nil => .nil
  | _, _, .cons r rs => .cons (Rep.keep K r) (Reps.keep K rs)
end
theorem Reps.length {h : Heap} {α : Al} : ∀ {vs : List Value} {xs : List PyData}, Reps h α vs xs → vs.length = xs.length
  | _, _, .nil => rfl
  | _, _, .cons _ rs => congrArg (· + 1) (Reps.length rs)
theorem Reps.append {h : Heap} {α : Al} : ∀ {vs ws : List Value} {xs ys : List PyData}, Reps h α vs xs → Reps h α ws ys → Reps h α (vs ++ ws) (xs ++ ys)
  | _, _, _, _, .nil, r => r
  | _, _, _, _, .cons a r, q => .cons a (Reps.append r q)
theorem Reps.get {h : Heap} {α : Al} : ∀ {vs : List Value} {xs : List PyData}, Reps h α vs xs → ∀ {k : Nat} {x : PyData}, xs[k]? = some x → ∃ v, vs[k]? = some v ∧ Rep h α v x
  | _, _, .nil, k, x, e => by simp at e
  | _, _, .cons (v := v) r rs, 0, x, e => by simp at e; subst e; exact ⟨v, rfl, r⟩
  | _, _, .cons r rs, k + 1, x, e => by simpa using Reps.get rs (k := k) (x := x) (by simpa using e)
theorem Reps.get' {h : Heap} {α : Al} {vs : List Value} {xs : List PyData} (r : Reps h α vs xs) {k : Nat} {v : Value} (e : vs[k]? = some v) : ∃ x, xs[k]? = some x ∧ Rep h α v x := by
  obtain ⟨hk, -⟩ := List.getElem?_eq_some_iff.mp e
  have hk' : k < xs.length := r.length ▸ hk
  obtain ⟨v', e', r'⟩ := r.get (List.getElem?_eq_getElem hk')
  rw [e] at e'; cases e'
  exact ⟨_, List.getElem?_eq_getElem hk', r'⟩
theorem Reps.take {h : Heap} {α : Al} : ∀ {vs : List Value} {xs : List PyData} (n : Nat), Reps h α vs xs → Reps h α (vs.take n) (xs.take n)
  | _, _, 0, _ => by simpa using Reps.nil
  | _, _, n + 1, .nil => by simpa using Reps.nil
  | _, _, n + 1, .cons r rs => by simpa using Reps.cons r (Reps.take n rs)
theorem Reps.drop {h : Heap} {α : Al} : ∀ {vs : List Value} {xs : List PyData} (n : Nat), Reps h α vs xs → Reps h α (vs.drop n) (xs.drop n)
  | _, _, 0, r => by simpa using r
  | _, _, n + 1, .nil => by simpa using Reps.nil
  | _, _, n + 1, .cons _ rs => by simpa using Reps.drop n rs
theorem Reps.set {h : Heap} {α : Al} : ∀ {vs : List Value} {xs : List PyData}, Reps h α vs xs → ∀ (k : Nat) {v : Value} {x : PyData}, Rep h α v x → Reps h α (vs.set k v) (xs.set k x)
  | _, _, .nil, k, _, _, _ => by simpa using Reps.nil
  | _, _, .cons r rs, 0, v, x, q => .cons q rs
  | _, _, .cons r rs, k + 1, v, x, q => .cons r (Reps.set rs k q)
noncomputable def RepV (h : Heap) (α : Al) (v : Value) : PV → Prop
  | .d x => Rep h α v x
  | .ref i => ∃ a, α.hs[i]? = some a ∧ v = .ref a
inductive Ents (h : Heap) (α : Al) : List (Str × Value) → List (Nat × PV) → Prop
  | nil : Ents h α [] []
  | cons {k v pv es ps} : k < nN → RepV h α v pv → Ents h α es ps → Ents h α ((nm k, v) :: es) ((k, pv) :: ps)
noncomputable def ObjOK (P : Program × World) (C : Addr) (h : Heap) (α : Al) (a : Addr) : PObj → Prop
  | .list xs => ∃ vs n, h.get? a = some { cls := .type "list", data := .seq vs n } ∧ Reps h α vs.toList xs
  | .sdict es => ∃ kvs, h.DictOf (strKind P.1 P.2) a kvs ∧ Ents h α kvs es
  | .idict ks => ∃ kvs, h.DictOf (intKind P.1 P.2) a kvs ∧ kvs.map (·.1) = ks
  | .inst di => ∃ ad, α.hs[di]? = some ad ∧ h.get? a = some { cls := .ref C, dict := some ad }
structure Inv (P : Program × World) (C : Addr) (h₀ h : Heap) (α : Al) (st : St) : Prop where
  base : ∀ a o, h₀.get? a = some o → h.get? a = some o
  hi : ∀ a ∈ α.hs, h₀.get? a = none
  nodup : α.hs.Nodup
  len : α.hs.length = st.length
  exs : ∀ a ∈ α.ex, ∃ o, h.get? a = some o
  objs : ∀ (i : Nat) (a : Addr) (o : PObj), α.hs[i]? = some a → st[i]? = some o → ObjOK P C h α a o
structure Ext (X : List Addr) (h : Heap) (α : Al) (h' : Heap) (α' : Al) : Prop where
  app : ∃ β, α' = ⟨α.hs ++ β, α.ex⟩ ∧ ∀ b ∈ β, h.get? b = none
  keep : ∀ a o, a ∉ α.hs → a ∉ X → h.get? a = some o → h'.get? a = some o
  dom : ∀ a o, h.get? a = some o → ∃ o', h'.get? a = some o'
noncomputable def same (s s' : Shared) : Prop := ∃ h tk, s' = { s with heap := h, toks := tk }
theorem same.refl (s : Shared) : same s s := ⟨_, _, rfl⟩
theorem same.trans {s s' s'' : Shared} (a : same s s') (b : same s' s'') : same s s'' := by
  obtain ⟨h, t, rfl⟩ := a; obtain ⟨h', t', rfl⟩ := b; exact ⟨h', t', rfl⟩
theorem Ext.refl (X : List Addr) (h : Heap) (α : Al) : Ext X h α h α := ⟨⟨[], by simp, by simp⟩, fun _ _ _ _ e => e, fun _ o e => ⟨o, e⟩⟩
theorem Ext.off {X : List Addr} {h h' : Heap} {α α' : Al} (E : Ext X h α h' α') {a : Addr} {o : Obj} (ha : a ∉ α.hs) (e : h.get? a = some o) : a ∉ α'.hs := by
  obtain ⟨β, rfl, hb⟩ := E.app
  intro m
  rcases List.mem_append.mp m with m | m
  · exact ha m
  · rw [hb a m] at e; cases e
theorem Ext.ex {X : List Addr} {h h' : Heap} {α α' : Al} (E : Ext X h α h' α') : α'.ex = α.ex := by
  obtain ⟨β, rfl, hb⟩ := E.app; rfl
theorem Ext.offAll {X : List Addr} {h h' : Heap} {α α' : Al} (E : Ext X h α h' α') {a : Addr} {o : Obj} (ha : a ∉ α.all) (e : h.get? a = some o) : a ∉ α'.all := by
  intro m
  rcases List.mem_append.mp m with m | m
  · exact E.off (Al.off ha) e m
  · rw [E.ex] at m; exact ha (List.mem_append_right _ m)
theorem Ext.trans {X : List Addr} {h h' h'' : Heap} {α α' α'' : Al} (E : Ext X h α h' α') (G : Ext X h' α' h'' α'') : Ext X h α h'' α'' := by
  refine ⟨?_, fun a o ha hx e => G.keep a o (E.off ha e) hx (E.keep a o ha hx e), fun a o e => let ⟨o', e'⟩ := E.dom a o e; G.dom a o' e'⟩
  obtain ⟨β, rfl, hb⟩ := E.app
  obtain ⟨γ, rfl, hg⟩ := G.app
  refine ⟨β ++ γ, by simp, fun b m => ?_⟩
  rcases List.mem_append.mp m with m | m
  · exact hb b m
  · cases q : h.get? b with
    | none => rfl
    | some o => obtain ⟨o', e'⟩ := E.dom b o q; rw [hg b m] at e'; cases e'
theorem Ext.weaken {X Y : List Addr} {h h' : Heap} {α α' : Al} (E : Ext X h α h' α') (hs : ∀ a ∈ X, a ∈ Y ∨ h.get? a = none) : Ext Y h α h' α' :=
  ⟨E.app, fun a o ha hy e => E.keep a o ha (fun hx => (hs a hx).elim hy fun n => by rw [n] at e; cases e) e, E.dom⟩
theorem Ext.keepS {X : List Addr} {h h' : Heap} {α α' : Al} (E : Ext X h α h' α') (hX : ∀ a ∈ X, ∀ o, h.get? a = some o → ¬ isSeq o) : KeepS h α h' α' :=
  ⟨fun a o ha hs e => E.keep a o (Al.off ha) (fun hx => hX a hx o e hs) e, fun _ _ ha _ e => E.offAll ha e⟩
theorem Ext.keep0 {h h' : Heap} {α α' : Al} (E : Ext [] h α h' α') : KeepS h α h' α' := E.keepS (by simp)
theorem Ext.idx {X : List Addr} {h h' : Heap} {α α' : Al} (E : Ext X h α h' α') {i : Nat} {a : Addr} (e : α.hs[i]? = some a) : α'.hs[i]? = some a := by
  obtain ⟨β, rfl, _⟩ := E.app
  rw [List.getElem?_append_left (List.getElem?_eq_some_iff.mp e).1]; exact e
noncomputable def Pre (α α' : Al) : Prop := ∀ (i : Nat) (a : Addr), α.hs[i]? = some a → α'.hs[i]? = some a
theorem Ext.pre {X : List Addr} {h h' : Heap} {α α' : Al} (E : Ext X h α h' α') : Pre α α' := fun _ _ e => E.idx e
theorem RepV.keep {h h' : Heap} {α α' : Al} (E : Pre α α') (K : KeepS h α h' α') {v : Value} : ∀ {p : PV}, RepV h α v p → RepV h' α' v p
  | .d _, r => Rep.keep K r
  | .ref _, ⟨a, e, ev⟩ => ⟨a, E _ _ e, ev⟩
theorem RepV.ext {h h' : Heap} {α α' : Al} (E : Ext [] h α h' α') {v : Value} {p : PV} (r : RepV h α v p) : RepV h' α' v p := r.keep E.pre E.keep0
theorem Ents.keep {h h' : Heap} {α α' : Al} (E : Pre α α') (K : KeepS h α h' α') : ∀ {es : List (Str × Value)} {ps : List (Nat × PV)}, Ents h α es ps → Ents h' α' es ps
  | _, _, .nil => .nil
  | _, _, .cons hk r q => .cons hk (r.keep E K) (Ents.keep E K q)
theorem ObjOK.keep {P : Program × World} {C : Addr} {h h' : Heap} {α α' : Al} {a : Addr} {o : PObj} (E : Pre α α') (K : KeepS h α h' α') (hg : ∀ ob, h.get? a = some ob → h'.get? a = some ob) (r : ObjOK P C h α a o) :
    ObjOK P C h' α' a o := by
  cases o with
  | list xs => obtain ⟨vs, n, e, r⟩ := r; exact ⟨vs, n, hg _ e, Reps.keep K r⟩
  | sdict es => obtain ⟨kvs, ⟨ob, ds, n, e, q⟩, r⟩ := r; exact ⟨kvs, ⟨ob, ds, n, hg _ e, q⟩, Ents.keep E K r⟩
  | idict ks => obtain ⟨kvs, ⟨ob, ds, n, e, q⟩, r⟩ := r; exact ⟨kvs, ⟨ob, ds, n, hg _ e, q⟩, r⟩
  | inst di => obtain ⟨ad, e, e'⟩ := r; exact ⟨ad, E _ _ e, hg _ e'⟩
theorem ObjOK.there {P : Program × World} {C : Addr} {h : Heap} {α : Al} {a : Addr} {o : PObj} (r : ObjOK P C h α a o) : ∃ ob, h.get? a = some ob := by
  cases o with
  | list xs => obtain ⟨vs, n, e, r⟩ := r; exact ⟨_, e⟩
  | sdict es => obtain ⟨kvs, ⟨ob, ds, n, e, q⟩, r⟩ := r; exact ⟨_, e⟩
  | idict ks => obtain ⟨kvs, ⟨ob, ds, n, e, q⟩, r⟩ := r; exact ⟨_, e⟩
  | inst di => obtain ⟨ad, e, e'⟩ := r; exact ⟨_, e'⟩
theorem nodup_inj {l : List Addr} (hn : l.Nodup) {i j : Nat} (h1 : i < l.length) (h2 : j < l.length) (e : l[i] = l[j]) : i = j := by
  rcases Nat.lt_trichotomy i j with h | h | h
  · exact absurd e (List.pairwise_iff_getElem.mp hn i j h1 h2 h)
  · exact h
  · exact absurd e.symm (List.pairwise_iff_getElem.mp hn j i h2 h1 h)
section
variable {P : Program × World} {C : Addr} {h₀ h h' : Heap} {α : Al} {st : St}
theorem Inv.at (I : Inv P C h₀ h α st) {i : Nat} {o : PObj} (e : st[i]? = some o) : ∃ a, α.hs[i]? = some a ∧ ObjOK P C h α a o := by
  have hi := (List.getElem?_eq_some_iff.mp e).1
  have := List.getElem?_eq_getElem (l := α.hs) (i := i) (I.len ▸ hi)
  exact ⟨_, this, I.objs i _ o this e⟩
theorem Inv.there (I : Inv P C h₀ h α st) {a : Addr} (ha : a ∈ α.hs) : ∃ o, h.get? a = some o := by
  obtain ⟨i, hi, e⟩ := List.mem_iff_getElem.mp ha
  have e1 : α.hs[i]? = some a := by rw [List.getElem?_eq_getElem hi, e]
  have e2 := List.getElem?_eq_getElem (l := st) (i := i) (I.len ▸ hi)
  exact (I.objs i a _ e1 e2).there
theorem Inv.grow (I : Inv P C h₀ h α st) (hk : ∀ a o, h.get? a = some o → h'.get? a = some o) : Inv P C h₀ h' α st ∧ Ext [] h α h' α := by
  have E : Ext [] h α h' α := ⟨⟨[], by simp, by simp⟩, fun a o _ _ e => hk a o e, fun a o e => ⟨o, hk a o e⟩⟩
  exact ⟨⟨fun a o e => hk a o (I.base a o e), I.hi, I.nodup, I.len, fun a ha => let ⟨o, e⟩ := I.exs a ha; ⟨o, hk a o e⟩, fun i a o e1 e2 => (I.objs i a o e1 e2).keep E.pre E.keep0 fun ob => hk a ob⟩, E⟩
theorem Inv.keepX (X : List Addr) (I : Inv P C h₀ h α st) (hX : ∀ a ∈ X, a ∉ α.hs ∧ h₀.get? a = none) (hq : ∀ a ∈ X, ∀ o, h.get? a = some o → ¬ isSeq o) (hk : ∀ a o, a ∉ X → h.get? a = some o → h'.get? a = some o)
    (hd : ∀ a o, h.get? a = some o → ∃ o', h'.get? a = some o') : Inv P C h₀ h' α st ∧ Ext X h α h' α := by
  have E : Ext X h α h' α := ⟨⟨[], by simp, by simp⟩, fun a o _ hx e => hk a o hx e, hd⟩
  refine ⟨⟨fun a o e => hk a o (fun m => by rw [(hX a m).2] at e; cases e) (I.base a o e), I.hi, I.nodup, I.len, fun a ha => let ⟨o, e⟩ := I.exs a ha; hd a o e, fun i a o e1 e2 => (I.objs i a o e1 e2).keep E.pre (E.keepS hq) fun ob => hk a ob fun m => (hX a m).1 (List.mem_of_getElem? e1)⟩, E⟩
theorem Inv.change (I : Inv P C h₀ h α st) {i : Nat} {a : Addr} {o : PObj} (e : α.hs[i]? = some a) (hk : ∀ b ob, b ≠ a → h.get? b = some ob → h'.get? b = some ob)
    (hg : ∃ ob, h'.get? a = some ob) (ho : Ext [] h α h' α → KeepS h α h' α → ObjOK P C h' α a o) : Inv P C h₀ h' α (st.set i o) ∧ Ext [] h α h' α := by
  have ha := List.mem_of_getElem? e
  have E : Ext [] h α h' α := ⟨⟨[], by simp, by simp⟩, fun b ob hb _ q => hk b ob (fun z => hb (z ▸ ha)) q, fun b o' q' => by
    by_cases hb : b = a
    · subst hb; exact hg
    · exact ⟨o', hk b o' hb q'⟩⟩
  refine ⟨⟨fun b ob q => hk b ob (fun z => by rw [z, I.hi a ha] at q; cases q) (I.base b ob q), I.hi, I.nodup, by simpa using I.len, fun b hb => let ⟨o, e⟩ := I.exs b hb; E.dom b o e, fun j b ob e1 e2 => ?_⟩, E⟩
  by_cases hj : i = j
  · subst hj
    rw [e] at e1; cases e1
    have hlt : i < st.length := by have := (List.getElem?_eq_some_iff.mp e2).1; simpa using this
    rw [List.getElem?_set_self hlt] at e2; cases e2
    exact ho E E.keep0
  · rw [List.getElem?_set_ne hj] at e2
    refine (I.objs j b ob e1 e2).keep E.pre E.keep0 fun ob' => hk b ob' fun z => ?_
    subst z
    obtain ⟨h1, g1⟩ := List.getElem?_eq_some_iff.mp e
    obtain ⟨h2, g2⟩ := List.getElem?_eq_some_iff.mp e1
    exact hj (nodup_inj I.nodup h1 h2 (g1.trans g2.symm))
theorem Inv.new (I : Inv P C h₀ h α st) {a : Addr} {o : PObj} (ha : h.get? a = none) (hk : ∀ b ob, h.get? b = some ob → h'.get? b = some ob)
    (ho : Ext [] h α h' (α.add a) → KeepS h α h' (α.add a) → ObjOK P C h' (α.add a) a o) : Inv P C h₀ h' (α.add a) (st ++ [o]) ∧ Ext [] h α h' (α.add a) := by
  have E : Ext [] h α h' (α.add a) := ⟨⟨[a], rfl, by simpa using ha⟩, fun b ob _ _ q => hk b ob q, fun b o' q' => ⟨o', hk b o' q'⟩⟩
  have hn : ∀ b ∈ α.hs, b ≠ a := fun b hb z => by obtain ⟨ob, q⟩ := I.there hb; rw [z, ha] at q; cases q
  have hb0 : h₀.get? a = none := by
    cases q : h₀.get? a with
    | none => rfl
    | some ob => have := I.base a ob q; rw [ha] at this; cases this
  refine ⟨⟨fun b ob q => hk b ob (I.base b ob q), fun b hb => ?_, ?_, by simp [Al.add, I.len], fun b hb => let ⟨o, e⟩ := I.exs b hb; ⟨o, hk b o e⟩, fun j b ob e1 e2 => ?_⟩, E⟩
  · rcases List.mem_append.mp hb with m | m
    · exact I.hi b m
    · rw [List.mem_singleton.mp m]; exact hb0
  · show (α.hs ++ [a]).Nodup
    rw [List.nodup_append]
    refine ⟨I.nodup, by simp, fun x hx y hy => ?_⟩
    rw [List.mem_singleton.mp hy]; exact hn x hx
  · by_cases hj : j < α.hs.length
    · unfold Al.add at e1; rw [List.getElem?_append_left hj] at e1
      rw [List.getElem?_append_left (I.len ▸ hj)] at e2
      exact (I.objs j b ob e1 e2).keep E.pre E.keep0 fun ob' => hk b ob'
    · have hlt := (List.getElem?_eq_some_iff.mp e1).1
      have hj' : j = α.hs.length := by simp [Al.add] at hlt; omega
      subst hj'
      simp [Al.add] at e1
      rw [I.len] at e2
      simp at e2
      subst e1 e2
      exact ho E E.keep0
theorem Inv.adopt (I : Inv P C h₀ h α st) {a : Addr} {o : PObj} (ha : a ∉ α.hs) (hb : h₀.get? a = none) (hq : ∀ ob, h.get? a = some ob → ¬ isSeq ob) (hk : ∀ b ob, b ≠ a → h.get? b = some ob → h'.get? b = some ob)
    (hd : ∀ a o, h.get? a = some o → ∃ o', h'.get? a = some o') (ho : Pre α (α.add a) → KeepS h α h' (α.add a) → ObjOK P C h' (α.add a) a o) : Inv P C h₀ h' (α.add a) (st ++ [o]) ∧ KeepS h α h' (α.add a) := by
  have hp : Pre α (α.add a) := fun i b e => by unfold Al.add; rw [List.getElem?_append_left (List.getElem?_eq_some_iff.mp e).1]; exact e
  have K : KeepS h α h' (α.add a) := ⟨fun b ob _ hs e => hk b ob (fun z => hq ob (z ▸ e) hs) e, fun b ob hb' hs e m => by
    rcases List.mem_append.mp m with m | m
    · rcases List.mem_append.mp m with m | m
      · exact Al.off hb' m
      · rw [List.mem_singleton.mp m] at e; exact hq ob e hs
    · exact hb' (List.mem_append_right _ m)⟩
  refine ⟨⟨fun b ob q => hk b ob (fun z => by rw [z, hb] at q; cases q) (I.base b ob q), fun b hb' => ?_, ?_, by simp [Al.add, I.len], fun b hb' => let ⟨o, e⟩ := I.exs b hb'; hd b o e, fun j b ob e1 e2 => ?_⟩, K⟩
  · rcases List.mem_append.mp hb' with m | m
    · exact I.hi b m
    · rw [List.mem_singleton.mp m]; exact hb
  · show (α.hs ++ [a]).Nodup
    rw [List.nodup_append]
    refine ⟨I.nodup, by simp, fun x hx y hy => ?_⟩
    rw [List.mem_singleton.mp hy]; exact fun z => ha (z ▸ hx)
  · by_cases hj : j < α.hs.length
    · unfold Al.add at e1; rw [List.getElem?_append_left hj] at e1
      rw [List.getElem?_append_left (I.len ▸ hj)] at e2
      exact (I.objs j b ob e1 e2).keep hp K fun ob' => hk b ob' fun z => ha (z ▸ List.mem_of_getElem? e1)
    · have hlt := (List.getElem?_eq_some_iff.mp e1).1
      have hj' : j = α.hs.length := by simp [Al.add] at hlt; omega
      subst hj'
      simp [Al.add] at e1
      rw [I.len] at e2
      simp at e2
      subst e1 e2
      exact ho hp K
end
end Mine
end
section
namespace Mine
open PySem
structure Wd where
  prog : Program
  w : World
  h₀ : Heap
  C : Addr
  K : W.Frag
  mg : Str → Option Value
  mb : Str → Option Value
structure Wd.Ok (W : Wd) : Prop where
  kin : W.K.In W.h₀
  g : W.h₀.Ns mainGlobals W.mg
  b : W.h₀.Ns builtinsNs W.mb
  nolimit : W.h₀.NoLimit
  boot : ∀ x : Str, x ≠ "__name__" → W.mb x = bootBuiltins x
  sys : ∃ o, W.h₀.get? sysModules = some o
noncomputable abbrev Wd.Inv (W : Wd) (h : Heap) (α : Al) (st : St) : Prop := Mine.Inv (W.prog, W.w) W.C W.h₀ h α st
structure Room (A : Around) (n : Nat) : Prop where
  hd : A.handled = none
  dp : A.depth + n < recursionLimit
  un : A.units + 4 * n + 100 < cLine
structure FrOK (h₀ h : Heap) (α : Al) (env : Env) (vs : Vars) : Prop where
  kind : env.scope.kind = .function
  glb : env.globals = mainGlobals
  blt : env.builtins = builtinsNs
  L0 : h₀.get? env.locals = none
  Lα : env.locals ∉ α.hs
  loc : ∃ m, h.Ns env.locals m ∧ ∀ k pv, k < nN → vs k = some pv → env.kindOf (nm k) = some .local → ∃ v, m (nm k) = some v ∧ RepV h α v pv
  cel : ∀ p ∈ env.cells, h₀.get? p.2 = none ∧ p.2 ∉ α.hs ∧ p.2 ≠ env.locals ∧ ∃ v, h.IsCell p.2 v
  apart : env.cells.Pairwise fun x y => x.2 ≠ y.2
  chas : ∀ k, k < nN → env.kindOf (nm k) = some .cell → ∃ a, env.cells.lookup (nm k) = some a
  cval : ∀ k pv, k < nN → vs k = some pv → env.kindOf (nm k) = some .cell → ∃ a v, env.cells.lookup (nm k) = some a ∧ h.IsCell a (some v) ∧ RepV h α v pv
noncomputable def frX (env : Env) : List Addr := env.locals :: env.cells.map (·.2)
theorem ns_noSeq {h : Heap} {a : Addr} {m : Str → Option Value} (n : h.Ns a m) : ∀ o, h.get? a = some o → ¬ isSeq o := by
  intro o e ⟨vs, k, hd⟩
  obtain ⟨o', es, ep, e', hd', -⟩ := n
  rw [e] at e'; cases e'; rw [hd] at hd'; cases hd'
theorem cell_noSeq {h : Heap} {a : Addr} {v : Option Value} (n : h.IsCell a v) : ∀ o, h.get? a = some o → ¬ isSeq o := by
  intro o e ⟨vs, k, hd⟩
  obtain ⟨o', e', hd'⟩ := n
  rw [e] at e'; cases e'; rw [hd] at hd'; cases hd'
theorem FrOK.step {h₀ h h' : Heap} {α α' : Al} {env : Env} {vs : Vars} (F : FrOK h₀ h α env vs) (E : Ext [] h α h' α') : FrOK h₀ h' α' env vs := by
  obtain ⟨m, hn, hv⟩ := F.loc
  have hL : ∀ o, h.get? env.locals = some o → h'.get? env.locals = some o := fun o e => E.keep _ o F.Lα (by simp) e
  obtain ⟨oL, _, _, eL, _⟩ := id hn
  refine ⟨F.kind, F.glb, F.blt, F.L0, E.off F.Lα eL, ⟨m, hn.at' hL, fun k pv hk e q => ?_⟩, fun p hp => ?_, F.apart, F.chas, fun k pv hk e q => ?_⟩
  · obtain ⟨v, ev, r⟩ := hv k pv hk e q
    exact ⟨v, ev, r.ext E⟩
  · obtain ⟨c0, c1, c2, v, o, eo, hd⟩ := F.cel p hp
    exact ⟨c0, E.off c1 eo, c2, v, o, E.keep _ _ c1 (by simp) eo, hd⟩
  · obtain ⟨a, v, e1, ⟨o, eo, hd⟩, r⟩ := F.cval k pv hk e q
    exact ⟨a, v, e1, ⟨o, E.keep _ _ (F.cel _ (mem_of_lookup e1)).2.1 (by simp) eo, hd⟩, r.ext E⟩
theorem FrOK.less {h₀ h : Heap} {α : Al} {env : Env} {vs vs' : Vars} (F : FrOK h₀ h α env vs) (hs : ∀ k pv, vs' k = some pv → vs k = some pv) : FrOK h₀ h α env vs' :=
  ⟨F.kind, F.glb, F.blt, F.L0, F.Lα, let ⟨m, hn, hv⟩ := F.loc; ⟨m, hn, fun k pv hk e q => hv k pv hk (hs k pv e) q⟩, F.cel, F.apart, F.chas, fun k pv hk e q => F.cval k pv hk (hs k pv e) q⟩
theorem FrOK.noSeq {h₀ h : Heap} {α : Al} {env : Env} {vs : Vars} (F : FrOK h₀ h α env vs) : ∀ a ∈ frX env, ∀ o, h.get? a = some o → ¬ isSeq o := by
  intro a ha
  rcases List.mem_cons.mp ha with rfl | ha
  · obtain ⟨m, hn, _⟩ := F.loc; exact ns_noSeq hn
  · obtain ⟨p, hp, rfl⟩ := List.mem_map.mp ha
    obtain ⟨_, _, _, v, hc⟩ := F.cel p hp
    exact cell_noSeq hc
theorem FrOK.offX {h₀ h : Heap} {α : Al} {env : Env} {vs : Vars} (F : FrOK h₀ h α env vs) : ∀ a ∈ frX env, a ∉ α.hs ∧ h₀.get? a = none := by
  intro a ha
  rcases List.mem_cons.mp ha with rfl | ha
  · exact ⟨F.Lα, F.L0⟩
  · obtain ⟨p, hp, rfl⟩ := List.mem_map.mp ha
    exact ⟨(F.cel p hp).2.1, (F.cel p hp).1⟩
section
variable (W : Wd)
noncomputable def ESim (n : Nat) (sc : Scope) (e : Expr) (f : PE) : Prop :=
  ∀ (A : Around) (E : Value → Shared → Prop) (env : Env) (α : Al) (s : Shared) (vs : Vars) (st : St) (v : PV) (st' : St) (Q : Value → Shared → Prop),
    Room A n → env.scope = sc → FrOK W.h₀ s.heap α env vs → W.Inv s.heap α st → f vs st = some (v, st') →
    (∀ s' α' pv, same s s' → Ext [] s.heap α s'.heap α' → W.Inv s'.heap α' st' → RepV s'.heap α' pv v → Q pv s') → wpAny (model W.prog W.w) A (eval e env) Q E s
noncomputable def TSim (n : Nat) (sc : Scope) (e : Expr) (f : PT) : Prop :=
  ∀ (A : Around) (E : Value → Shared → Prop) (env : Env) (α : Al) (s : Shared) (vs : Vars) (st : St) (b : Bool) (st' : St) (Q : Bool → Shared → Prop),
    Room A n → env.scope = sc → FrOK W.h₀ s.heap α env vs → W.Inv s.heap α st → f vs st = some (b, st') →
    (∀ s' α', same s s' → Ext [] s.heap α s'.heap α' → W.Inv s'.heap α' st' → Q b s') → wpAny (model W.prog W.w) A (isTrue e env (eval e env)) Q E s
end
inductive RepVs (h : Heap) (α : Al) : List Value → List PV → Prop
  | nil : RepVs h α [] []
  | cons {v p vs ps} : RepV h α v p → RepVs h α vs ps → RepVs h α (v :: vs) (p :: ps)
theorem RepVs.ext {h h' : Heap} {α α' : Al} (E : Ext [] h α h' α') : ∀ {vs : List Value} {ps : List PV}, RepVs h α vs ps → RepVs h' α' vs ps
  | _, _, .nil => .nil
  | _, _, .cons r q => .cons (r.ext E) (RepVs.ext E q)
theorem RepVs.length {h : Heap} {α : Al} : ∀ {vs : List Value} {ps : List PV}, RepVs h α vs ps → vs.length = ps.length
  | _, _, .nil => rfl
  | _, _, .cons _ q => congrArg (· + 1) (RepVs.length q)
theorem RepVs.datas {h : Heap} {α : Al} : ∀ {vs : List Value} {ps : List PV} {xs : List PyData}, RepVs h α vs ps → datas ps = some xs → Reps h α vs xs
  | _, _, _, .nil, e => by cases e; exact .nil
  | _, _, xs, .cons (p := p) r q, e => by
    unfold Mine.datas at e
    cases p with
    | ref i => cases e
    | d x =>
      simp only [PV.data, Option.bind_some] at e
      obtain ⟨ys, e1, rfl⟩ := Option.map_eq_some_iff.mp e
      exact .cons r (RepVs.datas q e1)
variable {W : Wd} {n : Nat} {sc : Scope}
noncomputable def notStar : Expr → Bool
  | .Starred .. => false
  | _ => true
theorem starEach_plain (env : Env) : ∀ (es : List Expr), es.all notStar = true → starEach es env = es.map fun e => (false, eval e env)
  | [], _ => rfl
  | e :: r, h => by
    obtain ⟨h1, h2⟩ := Bool.and_eq_true_iff.mp (by simpa only [List.all_cons] using h)
    rw [List.map_cons, ← starEach_plain env r h2]
    cases e <;> first | rfl | cases h1
inductive ESims (W : Wd) (n : Nat) (sc : Scope) : List Expr → List PE → Prop
  | nil : ESims W n sc [] []
  | cons {e f es fs} : ESim W n sc e f → ESims W n sc es fs → ESims W n sc (e :: es) (f :: fs)
theorem ESims.length : ∀ {es : List Expr} {fs : List PE}, ESims W n sc es fs → es.length = fs.length
  | _, _, .nil => rfl
  | _, _, .cons _ q => congrArg (· + 1) (ESims.length q)
theorem bind_eq {α β : Type} {x : Option α} {f : α → Option β} {b : β} (h : x.bind f = some b) : ∃ a, x = some a ∧ f a = some b := Option.bind_eq_some_iff.mp h
theorem map_eq {α β : Type} {x : Option α} {f : α → β} {b : β} (h : x.map f = some b) : ∃ a, x = some a ∧ f a = b := Option.map_eq_some_iff.mp h
theorem eSeq_length : ∀ {fs : List PE} {vs : Vars} {st st' : St} {ps : List PV}, eSeq fs vs st = some (ps, st') → ps.length = fs.length
  | [], _, _, _, _, e => by cases e; rfl
  | f :: fs, vs, st, st', ps, e => by
    obtain ⟨r, e1, e2⟩ := bind_eq e
    obtain ⟨q, e3, e4⟩ := bind_eq e2
    cases e4
    simpa using eSeq_length e3
theorem spliced_sim (pos : Pos) : ∀ {es : List Expr} {fs : List PE}, ESims W n sc es fs → ∀ {A : Around} {E : Value → Shared → Prop} {env : Env} {α : Al} {s : Shared} {vs : Vars} {st : St} {ps : List PV} {st' : St} {Q : List Value → Shared → Prop},
    Room A n → env.scope = sc → FrOK W.h₀ s.heap α env vs → W.Inv s.heap α st → eSeq fs vs st = some (ps, st') →
    (∀ s' α' pvs, same s s' → Ext [] s.heap α s'.heap α' → W.Inv s'.heap α' st' → RepVs s'.heap α' pvs ps → Q pvs s') →
    wpAny (model W.prog W.w) A (spliced (backTo pos (es.map fun e => (false, eval e env)))) Q E s := by
  intro es fs h
  induction h with
  | nil =>
    intro A E env α s vs st ps st' Q hr hs hf hi he hQ
    cases he
    exact wpAny_pure (hQ s α [] (.refl s) (.refl _ _ _) hi .nil)
  | @cons e f es fs h1 h2 ih =>
    intro A E env α s vs st ps st' Q hr hs hf hi he hQ
    obtain ⟨r, e1, e2⟩ := bind_eq he
    obtain ⟨q, e3, e4⟩ := bind_eq e2
    cases e4
    show wpAny _ _ (do
      let v ← eval e env
      let here ← (pure [v] : Sem (List Value))
      return here ++ (← holding [v] (spliced (backTo pos (es.map fun e => (false, eval e env)))))) _ _ _
    refine wpAny_bind (h1 A E env α s vs st r.1 r.2 _ hr hs hf hi e1 fun s1 α1 pv sm1 x1 i1 r1 => ?_)
    refine wpAny_bind (wpAny_pure (wpAny_bind (wpAny_holding ?_)))
    refine ih hr hs (hf.step x1) i1 e3 fun s2 α2 pvs sm2 x2 i2 r2 => ?_
    exact wpAny_pure (hQ s2 α2 (pv :: pvs) (sm1.trans sm2) (x1.trans x2) i2 (.cons (r1.ext x2) r2))
theorem ESim.cInt (i : Int) (k : Nat) (pos : Pos) : ESim W n sc (.Constant (.int i) k pos) (eD (.int i)) := by
  intro A E env α s vs st v st' Q hr hs hf hi he hQ
  cases he
  exact wpAny_Constant_int (hQ _ α _ ⟨_, _, rfl⟩ (.refl _ _ _) hi (.int _ _))
theorem ESim.cStr (x : Str) (k : Nat) (pos : Pos) : ESim W n sc (.Constant (.str x) k pos) (eD (.str x)) := by
  intro A E env α s vs st v st' Q hr hs hf hi he hQ
  cases he
  exact Calls.Constant_str (hQ _ α _ ⟨_, _, rfl⟩ (.refl _ _ _) hi (.str _ _))
theorem ESim.cBool (b : Bool) (k : Nat) (pos : Pos) : ESim W n sc (.Constant (.bool b) k pos) (eD (.bool b)) := by
  intro A E env α s vs st v st' Q hr hs hf hi he hQ
  cases he
  exact PyProof.Rows.Constant_bool (hQ _ α _ (.refl _) (.refl _ _ _) hi (.bool _))
theorem ESim.cNone (k : Nat) (pos : Pos) : ESim W n sc (.Constant .none k pos) (eD .none) := by
  intro A E env α s vs st v st' Q hr hs hf hi he hQ
  cases he
  exact PyProof.Rows.Constant_none (hQ _ α _ (.refl _) (.refl _ _ _) hi .none)
theorem FrOK.load {M : Model} {h₀ : Heap} {A : Around} {E : Value → Shared → Prop} {env : Env} {α : Al} {s : Shared} {vs : Vars} {k : Nat} {pv : PV} {Q : Value → Shared → Prop} (F : FrOK h₀ s.heap α env vs) (hk : k < nN) (e : vs k = some pv)
    (hl : env.kindOf (nm k) = some .local ∨ env.kindOf (nm k) = some .cell) (hQ : ∀ v, RepV s.heap α v pv → Q v s) : wpAny M A (loadName env (nm k)) Q E s := by
  rcases hl with hl | hl
  · obtain ⟨m, hn, hv⟩ := F.loc
    obtain ⟨v, ev, r⟩ := hv k pv hk e hl
    exact wpAny_loadName_local F.kind hl hn ev (hQ v r)
  · obtain ⟨a, v, e1, hc, r⟩ := F.cval k pv hk e hl
    exact wpAny_loadName_cell F.kind hl e1 hc (hQ v r)
theorem ESim.var {x : Str} (k : Nat) (pos : Pos) (hx : x = nm k) (hk : k < nN) (hl : sc.names.lookup x = some .local ∨ sc.names.lookup x = some .cell) (hd : (x == ("__debug__" : Str)) = false) : ESim W n sc (.Name x pos) (eVar k) := by
  intro A E env α s vs st v st' Q hr hs hf hi he hQ
  subst hx hs
  obtain ⟨pv, e1, e2⟩ := map_eq he
  cases e2
  exact wpAny_Name (hf.load hk e1 hl fun v r => hQ s α v (.refl s) (.refl _ _ _) hi r) hd
theorem fresh_none (h : Heap) : h.get? h.objs.size = .none := by
  cases q : h.get? h.objs.size with
  | none => rfl
  | some o => exact absurd (Heap.lt_size q) (Nat.lt_irrefl _)
theorem Mine.Inv.off {P : Program × World} {C : Addr} {h₀ h : Heap} {α : Al} {st : St} (I : Mine.Inv P C h₀ h α st) {a : Addr} (e : h.get? a = .none) : a ∉ α.all := fun m => by
  rcases List.mem_append.mp m with m | m
  · obtain ⟨o, q⟩ := I.there m; rw [e] at q; cases q
  · obtain ⟨o, q⟩ := I.exs _ m; rw [e] at q; cases q
theorem fresh_tuple {s : Shared} {α : Al} {st : St} {vs : Array Value} {xs : List PyData} (hi : W.Inv s.heap α st) (r : Reps s.heap α vs.toList xs) :
    let h' := s.heap.push { cls := .type "tuple", data := .seq vs }
    W.Inv h' α st ∧ Ext [] s.heap α h' α ∧ Rep h' α (.ref s.heap.objs.size) (.tuple xs) := by
  obtain ⟨i2, x2⟩ := hi.grow fun a o e => Heap.get?_push_of_some ({ cls := .type "tuple", data := .seq vs } : Obj) e
  exact ⟨i2, x2, .tuple (Heap.get?_push_size _ rfl) (Mine.Inv.off hi (fresh_none _)) (Reps.keep x2.keep0 r)⟩
theorem fresh_list {s : Shared} {α : Al} {st : St} {vs : Array Value} {xs : List PyData} (hi : W.Inv s.heap α st) (r : Reps s.heap α vs.toList xs) :
    let h' := s.heap.push { cls := .type "list", data := .seq vs }
    W.Inv h' α st ∧ Ext [] s.heap α h' α ∧ Rep h' α (.ref s.heap.objs.size) (.list xs) := by
  obtain ⟨i2, x2⟩ := hi.grow fun a o e => Heap.get?_push_of_some ({ cls := .type "list", data := .seq vs } : Obj) e
  exact ⟨i2, x2, .list (Heap.get?_push_size _ rfl) (Mine.Inv.off hi (fresh_none _)) (Reps.keep x2.keep0 r)⟩
theorem fresh_mlist {s : Shared} {α : Al} {st : St} {vs : Array Value} {xs : List PyData} (hi : W.Inv s.heap α st) (r : Reps s.heap α vs.toList xs) :
    let h' := s.heap.push { cls := .type "list", data := .seq vs }
    W.Inv h' (α.add s.heap.objs.size) (st ++ [.list xs]) ∧ Ext [] s.heap α h' (α.add s.heap.objs.size) ∧ RepV h' (α.add s.heap.objs.size) (.ref s.heap.objs.size) (.ref st.length) := by
  obtain ⟨i2, x2⟩ := hi.new (o := .list xs) (fresh_none _) (fun b ob e => Heap.get?_push_of_some ({ cls := .type "list", data := .seq vs } : Obj) e) fun _ K => ⟨_, _, Heap.get?_push_size _ rfl, Reps.keep K r⟩
  exact ⟨i2, x2, _, by rw [← hi.len]; simp [Al.add], rfl⟩
theorem ESim.tup {es : List Expr} {fs : List PE} {k : Nat} {pos : Pos} (h : ESims W n sc es fs) (hst : es.all notStar = true) (hlen : es.length ≤ 1000) : ESim W n sc (.Tuple es k pos) (eTup fs) := by
  intro A E env α s vs st v st' Q hr hs hf hi he hQ
  obtain ⟨r, e1, e2⟩ := bind_eq he
  obtain ⟨xs, e3, e4⟩ := map_eq e2
  cases e4
  rw [arm_eval_Tuple, starEach_plain env es hst]
  refine wpAny_bind (wpAny_standAt (wpAny_bind (spliced_sim pos h hr hs hf hi e1 fun s1 α1 pvs sm1 x1 i1 r1 => ?_)))
  unfold newTuple
  have hsz : pvs.length ≤ 1000 := by rw [r1.length, eSeq_length e1, ← h.length]; exact hlen
  refine wpAny_newObj_type ?_ (by show (pvs.toArray).size ≤ sizeLine; rw [List.size_toArray, sizeLine_eq]; omega)
  obtain ⟨i2, x2, r2⟩ := fresh_tuple (vs := pvs.toArray) i1 (r1.datas e3)
  exact hQ _ α1 _ (sm1.trans ⟨_, _, rfl⟩) (x1.trans x2) i2 r2
theorem ESim.lst {es : List Expr} {fs : List PE} {pos : Pos} (h : ESims W n sc es fs) (hst : es.all notStar = true) (hlen : es.length ≤ 1000) : ESim W n sc (.List es pos) (eLst fs) := by
  intro A E env α s vs st v st' Q hr hs hf hi he hQ
  obtain ⟨r, e1, e2⟩ := bind_eq he
  obtain ⟨xs, e3, e4⟩ := map_eq e2
  cases e4
  rw [arm_eval_List, starEach_plain env es hst]
  refine wpAny_bind (wpAny_standAt (wpAny_bind (spliced_sim pos h hr hs hf hi e1 fun s1 α1 pvs sm1 x1 i1 r1 => ?_)))
  unfold newList
  have hsz : pvs.length ≤ 1000 := by rw [r1.length, eSeq_length e1, ← h.length]; exact hlen
  refine wpAny_newObj_type ?_ (by show (pvs.toArray).size ≤ sizeLine; rw [List.size_toArray, sizeLine_eq]; omega)
  obtain ⟨i2, x2, r2⟩ := fresh_list (vs := pvs.toArray) i1 (r1.datas e3)
  exact hQ _ α1 _ (sm1.trans ⟨_, _, rfl⟩) (x1.trans x2) i2 r2
theorem ESim.newList {pos : Pos} : ESim W n sc (.List [] pos) eNewList := by
  intro A E env α s vs st v st' Q hr hs hf hi he hQ
  cases he
  rw [arm_eval_List]
  refine wpAny_bind (wpAny_standAt (wpAny_bind (wpAny_pure ?_)))
  unfold PySem.newList
  refine wpAny_newObj_type ?_ (by show (([] : List Value).toArray).size ≤ sizeLine; rw [sizeLine_eq]; decide)
  obtain ⟨i2, x2, r2⟩ := fresh_mlist (vs := ([] : List Value).toArray) (xs := []) hi .nil
  exact hQ _ _ _ ⟨_, _, rfl⟩ x2 i2 r2
noncomputable def Op2 (W : Wd) (m : Value → Value → Sem Value) (f : PyData → PyData → Option PyData) : Prop :=
  ∀ (A : Around) (E : Value → Shared → Prop) (α : Al) (s : Shared) (st : St) (a b : Value) (x y z : PyData) (Q : Value → Shared → Prop), Room A 0 → W.Inv s.heap α st → TopR s.heap α a x → TopR s.heap α b y → f x y = some z →
    (∀ s' pv, same s s' → Ext [] s.heap α s'.heap α → W.Inv s'.heap α st → Rep s'.heap α pv z → Q pv s') → wpAny (model W.prog W.w) A (m a b) Q E s
noncomputable def Op1 (W : Wd) (m : Value → Sem Value) (f : PyData → Option PyData) : Prop :=
  ∀ (A : Around) (E : Value → Shared → Prop) (α : Al) (s : Shared) (st : St) (a : Value) (x z : PyData) (Q : Value → Shared → Prop), Room A 0 → W.Inv s.heap α st → TopR s.heap α a x → f x = some z →
    (∀ s' pv, same s s' → Ext [] s.heap α s'.heap α → W.Inv s'.heap α st → Rep s'.heap α pv z → Q pv s') → wpAny (model W.prog W.w) A (m a) Q E s
theorem Room.zero {A : Around} {n : Nat} (r : Room A n) : Room A 0 := ⟨r.hd, by have := r.dp; omega, by have := r.un; omega⟩
theorem Room.le {A : Around} {n k : Nat} (r : Room A n) (h : k ≤ n) : Room A k := ⟨r.hd, by have := r.dp; omega, by have := r.un; omega⟩
theorem RepV.rd {α : Al} {h : Heap} {st : St} (hi : W.Inv h α st) {v : Value} {p : PV} {x : PyData} (r : RepV h α v p) (e : rd st p = some x) : TopR h α v x := by
  cases p with
  | d y => cases e; exact Rep.top r
  | ref i =>
    obtain ⟨a, ea, rfl⟩ := r
    simp only [Mine.rd] at e
    split at e
    · rename_i xs q
      cases e
      obtain ⟨vs, k, ho, hr⟩ := hi.objs i a _ ea q
      exact .list ho hr
    · cases e
theorem ESim.bin {l r : Expr} {op : Operator} {pos : Pos} {f g : PE} {d : PyData → PyData → Option PyData} (hl : ESim W n sc l f) (hr : ESim W n sc r g) (ho : Op2 W (binaryOp op) d) : ESim W n sc (.BinOp l op r pos) (eOp2 d f g) := by
  intro A E env α s vs st v st' Q room hs hf hi he hQ
  obtain ⟨p, e1, he⟩ := bind_eq he
  obtain ⟨q, e2, he⟩ := bind_eq he
  obtain ⟨x, e3, he⟩ := bind_eq he
  obtain ⟨y, e4, he⟩ := bind_eq he
  obtain ⟨z, e5, he⟩ := map_eq he
  cases he
  refine wpAny_BinOp (hl A E env α s vs st p.1 p.2 _ room hs hf hi e1 fun s1 α1 a sm1 x1 i1 r1 => ?_)
  refine hr A E env α1 s1 vs p.2 q.1 q.2 _ room hs (hf.step x1) i1 e2 fun s2 α2 b sm2 x2 i2 r2 => ?_
  exact ho A E α2 s2 q.2 a b x y z Q room.zero i2 ((r1.ext x2).rd i2 e3) (r2.rd i2 e4) e5 fun s3 pv sm3 x3 i3 r3 => hQ s3 α2 pv ((sm1.trans sm2).trans sm3) ((x1.trans x2).trans x3) i3 r3
theorem ESim.cmp {l r : Expr} {op : CmpOp} {pos : Pos} {f g : PE} {d : PyData → PyData → Option Bool} (hl : ESim W n sc l f) (hr : ESim W n sc r g) (ho : Op2 W (compareOp op) (dB d)) (hm : behindInMarks op r = false) : ESim W n sc (.Compare l [op] [r] pos) (eOp2 (dB d) f g) := by
  intro A E env α s vs st v st' Q room hs hf hi he hQ
  obtain ⟨p, e1, he⟩ := bind_eq he
  obtain ⟨q, e2, he⟩ := bind_eq he
  obtain ⟨x, e3, he⟩ := bind_eq he
  obtain ⟨y, e4, he⟩ := bind_eq he
  obtain ⟨z, e5, he⟩ := map_eq he
  cases he
  refine wpAny_Compare1 (hl A E env α s vs st p.1 p.2 _ room hs hf hi e1 fun s1 α1 a sm1 x1 i1 r1 => ?_) hm
  refine hr A E env α1 s1 vs p.2 q.1 q.2 _ room hs (hf.step x1) i1 e2 fun s2 α2 b sm2 x2 i2 r2 => ?_
  exact ho A E α2 s2 q.2 a b x y z Q room.zero i2 ((r1.ext x2).rd i2 e3) (r2.rd i2 e4) e5 fun s3 pv sm3 x3 i3 r3 => hQ s3 α2 pv ((sm1.trans sm2).trans sm3) ((x1.trans x2).trans x3) i3 r3
theorem TSim.cmp {l r : Expr} {op : CmpOp} {pos : Pos} {f g : PE} {d : PyData → PyData → Option Bool} (hl : ESim W n sc l f) (hr : ESim W n sc r g) (ho : Op2 W (compareOp op) (dB d)) (hm : behindInMarks op r = false) : TSim W n sc (.Compare l [op] [r] pos) (tOp2 d f g) := by
  intro A E env α s vs st v st' Q room hs hf hi he hQ
  obtain ⟨p, e1, he⟩ := bind_eq he
  obtain ⟨q, e2, he⟩ := bind_eq he
  obtain ⟨x, e3, he⟩ := bind_eq he
  obtain ⟨y, e4, he⟩ := bind_eq he
  obtain ⟨z, e5, he⟩ := map_eq he
  cases he
  refine wpAny_isTrue_Compare1 (hl A E env α s vs st p.1 p.2 _ room hs hf hi e1 fun s1 α1 a sm1 x1 i1 r1 => ?_) hm
  refine hr A E env α1 s1 vs p.2 q.1 q.2 _ room hs (hf.step x1) i1 e2 fun s2 α2 b sm2 x2 i2 r2 => ?_
  refine ho A E α2 s2 q.2 a b x y (.bool v) _ room.zero i2 ((r1.ext x2).rd i2 e3) (r2.rd i2 e4) (by unfold dB; rw [e5]; rfl) fun s3 pv sm3 x3 i3 r3 => ?_
  cases r3
  exact wpAny_truthy_bool (hQ s3 α2 ((sm1.trans sm2).trans sm3) ((x1.trans x2).trans x3) i3)
theorem ESim.un {e : Expr} {op : UnaryOp} {pos : Pos} {f : PE} {d : PyData → Option PyData} (h : ESim W n sc e f) (ho : Op1 W (unaryOp op) d) : ESim W n sc (.UnaryOp op e pos) (eOp1 d f) := by
  intro A E env α s vs st v st' Q room hs hf hi he hQ
  obtain ⟨p, e1, he⟩ := bind_eq he
  obtain ⟨x, e3, he⟩ := bind_eq he
  obtain ⟨z, e5, he⟩ := map_eq he
  cases he
  refine PyProof.Rows.UnaryOp_ (h A E env α s vs st p.1 p.2 _ room hs hf hi e1 fun s1 α1 a sm1 x1 i1 r1 => ?_)
  exact ho A E α1 s1 p.2 a x z Q room.zero i1 (r1.rd i1 e3) e5 fun s3 pv sm3 x3 i3 r3 => hQ s3 α1 pv (sm1.trans sm3) (x1.trans x3) i3 r3
theorem ESim.ite {t a b : Expr} {pos : Pos} {ft : PT} {fa fb : PE} (ht : TSim W n sc t ft) (ha : ESim W n sc a fa) (hb : ESim W n sc b fb) : ESim W n sc (.IfExp t a b pos) (eIf ft fa fb) := by
  intro A E env α s vs st v st' Q room hs hf hi he hQ
  obtain ⟨p, e1, he⟩ := bind_eq he
  refine PyProof.Rows.IfExp_ (ht A E env α s vs st p.1 p.2 _ room hs hf hi e1 fun s1 α1 sm1 x1 i1 => ?_)
  cases hp : p.1 with
  | true => rw [hp] at he; exact ha A E env α1 s1 vs p.2 v st' Q room hs (hf.step x1) i1 he fun s3 α3 pv sm3 x3 i3 r3 => hQ s3 α3 pv (sm1.trans sm3) (x1.trans x3) i3 r3
  | false => rw [hp] at he; exact hb A E env α1 s1 vs p.2 v st' Q room hs (hf.step x1) i1 he fun s3 α3 pv sm3 x3 i3 r3 => hQ s3 α3 pv (sm1.trans sm3) (x1.trans x3) i3 r3
theorem TSim.val {e : Expr} {f : PE} (h : ESim W n sc e f) (hp : ∀ env whole, isTrue e env whole = (do let v ← whole; standAt e.pos; holding [v] (truthy v))) : TSim W n sc e (tVal f) := by
  intro A E env α s vs st v st' Q room hs hf hi he hQ
  obtain ⟨p, e1, he⟩ := bind_eq he
  refine PyProof.Rows.isTrue_plain (h A E env α s vs st p.1 p.2 _ room hs hf hi e1 fun s1 α1 pv sm1 x1 i1 r1 => ?_) (hp _ _)
  obtain ⟨p1, p2⟩ := p
  cases p1 with
  | ref i => cases he
  | d x =>
    cases x with
    | bool c => cases he; cases r1; exact wpAny_truthy_bool (hQ s1 α1 sm1 x1 i1)
    | _ => cases he
theorem TSim.not {e : Expr} {pos : Pos} {f : PT} (h : TSim W n sc e f) : TSim W n sc (.UnaryOp .Not e pos) (tNot f) := by
  intro A E env α s vs st v st' Q room hs hf hi he hQ
  obtain ⟨p, e1, he⟩ := map_eq he
  cases he
  exact PyProof.Rows.isTrue_not (h A E env α s vs st p.1 p.2 _ room hs hf hi e1 fun s1 α1 sm1 x1 i1 => hQ s1 α1 sm1 x1 i1)
theorem TSim.and {a b : Expr} {pos : Pos} {f g : PT} (ha : TSim W n sc a f) (hb : TSim W n sc b g) : TSim W n sc (.BoolOp .And [a, b] pos) (tAnd f g) := by
  intro A E env α s vs st v st' Q room hs hf hi he hQ
  obtain ⟨p, e1, he⟩ := bind_eq he
  refine PyProof.Rows.isTrue_and (ha A E env α s vs st p.1 p.2 _ room hs hf hi e1 fun s1 α1 sm1 x1 i1 => ?_)
  cases hp : p.1 with
  | true =>
    rw [hp] at he
    refine PyProof.Rows.isTrue_and (hb A E env α1 s1 vs p.2 v st' _ room hs (hf.step x1) i1 he fun s3 α3 sm3 x3 i3 => ?_)
    have := hQ s3 α3 (sm1.trans sm3) (x1.trans x3) i3
    cases v with
    | true => exact PyProof.Rows.isTrue_and_nil this
    | false => exact this
  | false => rw [hp] at he; cases he; exact hQ s1 α1 sm1 x1 i1
theorem TSim.or {a b : Expr} {pos : Pos} {f g : PT} (ha : TSim W n sc a f) (hb : TSim W n sc b g) : TSim W n sc (.BoolOp .Or [a, b] pos) (tOr f g) := by
  intro A E env α s vs st v st' Q room hs hf hi he hQ
  obtain ⟨p, e1, he⟩ := bind_eq he
  refine PyProof.Rows.isTrue_or (ha A E env α s vs st p.1 p.2 _ room hs hf hi e1 fun s1 α1 sm1 x1 i1 => ?_)
  cases hp : p.1 with
  | false =>
    rw [hp] at he
    refine PyProof.Rows.isTrue_or (hb A E env α1 s1 vs p.2 v st' _ room hs (hf.step x1) i1 he fun s3 α3 sm3 x3 i3 => ?_)
    have := hQ s3 α3 (sm1.trans sm3) (x1.trans x3) i3
    cases v with
    | true => exact this
    | false => exact PyProof.Rows.isTrue_or_nil this
  | true => rw [hp] at he; cases he; exact hQ s1 α1 sm1 x1 i1
theorem TSim.or3 {a b c : Expr} {pos : Pos} {f g k : PT} (ha : TSim W n sc a f) (hb : TSim W n sc (.BoolOp .Or [b, c] pos) (tOr g k)) : TSim W n sc (.BoolOp .Or [a, b, c] pos) (tOr f (tOr g k)) := by
  intro A E env α s vs st v st' Q room hs hf hi he hQ
  obtain ⟨p, e1, he⟩ := bind_eq he
  refine PyProof.Rows.isTrue_or (ha A E env α s vs st p.1 p.2 _ room hs hf hi e1 fun s1 α1 sm1 x1 i1 => ?_)
  cases hp : p.1 with
  | false => rw [hp] at he; exact hb A E env α1 s1 vs p.2 v st' Q room hs (hf.step x1) i1 he fun s3 α3 sm3 x3 i3 => hQ s3 α3 (sm1.trans sm3) (x1.trans x3) i3
  | true => rw [hp] at he; cases he; exact hQ s1 α1 sm1 x1 i1
theorem ESim.and1 {a : Expr} {rest : List Expr} {b : Expr} {pos : Pos} {f g : PE} (ha : ESim W n sc a f) (hb : ESim W n sc (.BoolOp .And (b :: rest) pos) g) : ESim W n sc (.BoolOp .And (a :: b :: rest) pos) (eAnd f g) := by
  intro A E env α s vs st v st' Q room hs hf hi he hQ
  obtain ⟨p, e1, he⟩ := bind_eq he
  refine PyProof.Rows.BoolOp_and (ha A E env α s vs st p.1 p.2 _ room hs hf hi e1 fun s1 α1 pv sm1 x1 i1 r1 => ?_)
  obtain ⟨p1, p2⟩ := p
  cases p1 with
  | ref i => cases he
  | d x =>
    cases x with
    | bool c =>
      cases r1
      refine wpAny_truthy_bool ?_
      cases c with
      | true => exact hb A E env α1 s1 vs p2 v st' Q room hs (hf.step x1) i1 he fun s3 α3 pv sm3 x3 i3 r3 => hQ s3 α3 pv (sm1.trans sm3) (x1.trans x3) i3 r3
      | false => cases he; exact hQ s1 α1 _ sm1 x1 i1 (.bool _)
    | _ => cases he
theorem ESim.or1 {a : Expr} {rest : List Expr} {b : Expr} {pos : Pos} {f g : PE} (ha : ESim W n sc a f) (hb : ESim W n sc (.BoolOp .Or (b :: rest) pos) g) : ESim W n sc (.BoolOp .Or (a :: b :: rest) pos) (eOr f g) := by
  intro A E env α s vs st v st' Q room hs hf hi he hQ
  obtain ⟨p, e1, he⟩ := bind_eq he
  refine PyProof.Rows.BoolOp_or (ha A E env α s vs st p.1 p.2 _ room hs hf hi e1 fun s1 α1 pv sm1 x1 i1 r1 => ?_)
  obtain ⟨p1, p2⟩ := p
  cases p1 with
  | ref i => cases he
  | d x =>
    cases x with
    | bool c =>
      cases r1
      refine wpAny_truthy_bool ?_
      cases c with
      | false => exact hb A E env α1 s1 vs p2 v st' Q room hs (hf.step x1) i1 he fun s3 α3 pv sm3 x3 i3 r3 => hQ s3 α3 pv (sm1.trans sm3) (x1.trans x3) i3 r3
      | true => cases he; exact hQ s1 α1 _ sm1 x1 i1 (.bool _)
    | _ => cases he
theorem ESim.bool1 {op : BoolOp} {a : Expr} {pos : Pos} {f : PE} (ha : ESim W n sc a f) : ESim W n sc (.BoolOp op [a] pos) f := by
  intro A E env α s vs st v st' Q room hs hf hi he hQ
  exact PyProof.Rows.BoolOp_one (ha A E env α s vs st v st' Q room hs hf hi he hQ)
end Mine
end
section
namespace Mine
open PySem
variable {W : Wd} {n : Nat} {sc : Scope}
theorem small_iff {i : Int} (h : small i = true) : -(2 ^ 40) ≤ i ∧ i ≤ 2 ^ 40 := by
  obtain ⟨h1, h2⟩ := Bool.and_eq_true_iff.mp h
  exact ⟨of_decide_eq_true h1, of_decide_eq_true h2⟩
theorem szOk_iff {k : Nat} (h : szOk k = true) : k ≤ 1000000 := of_decide_eq_true h
theorem sz_line {k : Nat} (h : k ≤ 1000000) : k ≤ sizeLine := by rw [sizeLine_eq]; omega
theorem tick {s : Shared} {α : Al} {st : St} {Q : Value → Shared → Prop} {z : PyData} {v : Value} {t : Nat} (hi : W.Inv s.heap α st) (r : Rep s.heap α v z)
    (hQ : ∀ s' pv, same s s' → Ext [] s.heap α s'.heap α → W.Inv s'.heap α st → Rep s'.heap α pv z → Q pv s') : Q v { s with toks := t } := hQ _ v ⟨_, _, rfl⟩ (.refl _ _ _) hi r
theorem stay {s : Shared} {α : Al} {st : St} {Q : Value → Shared → Prop} {z : PyData} {v : Value} (hi : W.Inv s.heap α st) (r : Rep s.heap α v z)
    (hQ : ∀ s' pv, same s s' → Ext [] s.heap α s'.heap α → W.Inv s'.heap α st → Rep s'.heap α pv z → Q pv s') : Q v s := hQ _ v (.refl _) (.refl _ _ _) hi r
theorem grown {s : Shared} {α : Al} {st : St} {Q : Value → Shared → Prop} {z : PyData} {v : Value} {h' : Heap} {t : Nat} (hi : W.Inv s.heap α st) (hk : ∀ a o, s.heap.get? a = some o → h'.get? a = some o) (r : Rep h' α v z)
    (hQ : ∀ s' pv, same s s' → Ext [] s.heap α s'.heap α → W.Inv s'.heap α st → Rep s'.heap α pv z → Q pv s') : Q v { s with heap := h', toks := t } :=
  let ⟨i, x⟩ := hi.grow hk
  hQ _ v ⟨_, _, rfl⟩ x i r
theorem op_add : Op2 W (binaryOp .Add) dAdd := by
  intro A E α s st a b x y z Q room hi ra rb e hQ
  cases ra <;> cases rb <;> try cases e
  · exact wpAny_add_int (tick hi (.int _ _) hQ)
  · rename_i h1 r1 _ _ _ _ h2 r2
    simp only [dAdd] at e
    split at e
    · rename_i hz
      cases e
      have hz' := szOk_iff hz
      have l1 := r1.length
      have l2 := r2.length
      simp only [Array.length_toList] at l1 l2
      refine P.add_list h1 h2 ?_ (sz_line (by omega))
      obtain ⟨i2, x2, q⟩ := fresh_list (vs := _ ++ _) hi (by rw [Array.toList_append]; exact r1.append r2)
      exact hQ _ _ ⟨_, _, rfl⟩ x2 i2 q
    · cases e
  · rename_i h1 n1 r1 _ _ _ _ h2 n2 r2
    simp only [dAdd] at e
    split at e
    · rename_i hz
      cases e
      have hz' := szOk_iff hz
      have l1 := r1.length
      have l2 := r2.length
      simp only [Array.length_toList] at l1 l2
      rename_i a1 vs1 k1 xs1 a2 vs2 k2 xs2
      by_cases e1 : vs1.toList = []
      · have ex : xs1 = [] := by rw [e1] at r1; cases r1; rfl
        refine concat_meets ⟨_, h1, rfl⟩ ⟨_, h2, rfl⟩ noFill_tuple_add seq_tuple_add F.slot_tuple_add F.entry_tuple_add (F.args_tuple_add_2 _ _)
          (PyProof.Rows.tuple_addW0 _ _ _ _ _ _ _ _ _ _ (by simpa using e1)) ⟨h1, h2, ?_⟩
        subst ex
        exact stay hi (by simpa using Rep.tuple h2 n2 r2) hQ
      · by_cases e2 : vs2.toList = []
        · have ex : xs2 = [] := by rw [e2] at r2; cases r2; rfl
          refine concat_meets ⟨_, h1, rfl⟩ ⟨_, h2, rfl⟩ noFill_tuple_add seq_tuple_add F.slot_tuple_add F.entry_tuple_add (F.args_tuple_add_2 _ _)
            (PyProof.Rows.tuple_addW1 _ _ _ _ _ _ _ _ _ _ (by simpa using e1) (by simpa using e2)) ⟨h1, h2, ?_⟩
          subst ex
          exact stay hi (by simpa using Rep.tuple h1 n1 r1) hQ
        · refine P.add_tuple h1 h2 (by simpa using e1) (by simpa using e2) ?_ (sz_line (by omega))
          obtain ⟨i2, x2, q⟩ := fresh_tuple (vs := _ ++ _) hi (by rw [Array.toList_append]; exact r1.append r2)
          exact hQ _ _ ⟨_, _, rfl⟩ x2 i2 q
    · cases e
theorem TopR.int_inv {h : Heap} {α : Al} {v : Value} {i : Int} (r : TopR h α v (.int i)) : ∃ t, v = .int i t := by
  cases r; exact ⟨_, rfl⟩
theorem two_ints {β : Type} {f : Int → Int → Option β} {x y : PyData} {z : β} (e : (match x, y with
  | .int a, .int b => f a b
  | _, _ => none) = some z) : ∃ a b, x = .int a ∧ y = .int b ∧ f a b = some z := by
  split at e
  · exact ⟨_, _, rfl, rfl, e⟩
  · cases e
theorem op_sub : Op2 W (binaryOp .Sub) dSub := by
  intro A E α s st a b x y z Q room hi ra rb e hQ
  obtain ⟨i, j, rfl, rfl, e⟩ := two_ints e
  obtain ⟨t, rfl⟩ := ra.int_inv
  obtain ⟨u, rfl⟩ := rb.int_inv
  cases e
  exact PyProof.Rows.sub_int (tick hi (.int _ _) hQ)
theorem op_mul : Op2 W (binaryOp .Mult) dMul := by
  intro A E α s st a b x y z Q room hi ra rb e hQ
  obtain ⟨i, j, rfl, rfl, e'⟩ := two_ints e
  clear e
  have e := e'
  clear e'
  obtain ⟨t, rfl⟩ := ra.int_inv
  obtain ⟨u, rfl⟩ := rb.int_inv
  split at e
  · rename_i h
    cases e
    obtain ⟨h1, h2⟩ := Bool.and_eq_true_iff.mp h
    have := small_iff h1
    have := small_iff h2
    exact PyProof.Rows.mul_int (tick hi (.int _ _) hQ) (by mul_fits)
  · cases e
theorem op_mod : Op2 W (binaryOp .Mod) dMod := by
  intro A E α s st a b x y z Q room hi ra rb e hQ
  obtain ⟨i, j, rfl, rfl, e'⟩ := two_ints e
  clear e
  have e := e'
  clear e'
  obtain ⟨t, rfl⟩ := ra.int_inv
  obtain ⟨u, rfl⟩ := rb.int_inv
  split at e
  · rename_i h
    cases e
    have h1 := of_decide_eq_true (Bool.and_eq_true_iff.mp h).1
    exact PyProof.Rows.mod_int (by omega) (tick hi (.int _ _) hQ)
  · cases e
theorem op_neg : Op1 W (unaryOp .USub) dNeg := by
  intro A E α s st a x z Q room hi ra e hQ
  cases ra <;> try cases e
  exact PyProof.Rows.neg_int (tick hi (.int _ _) hQ)
theorem op_not : Op1 W (unaryOp .Not) dNot := by
  intro A E α s st a x z Q room hi ra e hQ
  cases ra <;> try cases e
  exact PyProof.Rows.not_of (wpAny_truthy_bool (stay hi (.bool _) hQ))
theorem dB_some {f : PyData → PyData → Option Bool} {x y z : PyData} (e : dB f x y = some z) : ∃ b, f x y = some b ∧ z = .bool b := by
  obtain ⟨b, h1, h2⟩ := map_eq e
  exact ⟨b, h1, h2.symm⟩
theorem eqOk_room {A : Around} {x y : PyData} (r : Room A 0) (h : eqOk x y = true) : x.canLay0 = true ∧ y.canLay0 = true ∧ A.units + min x.depth y.depth < cLine := by
  obtain ⟨h1, h2⟩ := Bool.and_eq_true_iff.mp h
  obtain ⟨h3, h4⟩ := Bool.and_eq_true_iff.mp h1
  have := of_decide_eq_true h2
  have := r.un
  exact ⟨h3, h4, by omega⟩
theorem op_eq : Op2 W (compareOp .Eq) (dB qEq) := by
  intro A E α s st a b x y z Q room hi ra rb e hQ
  obtain ⟨c, e1, rfl⟩ := dB_some e
  unfold qEq at e1
  split at e1
  · rename_i h
    cases e1
    obtain ⟨h1, h2, h3⟩ := eqOk_room room h
    obtain ⟨as, r1⟩ := ra.reads
    obtain ⟨bs, r2⟩ := rb.reads
    exact SeqAt.compareEq_reads r1 r2 h1 h2 h3 (stay hi (.bool _) hQ)
  · cases e1
theorem op_ne : Op2 W (compareOp .NotEq) (dB qNe) := by
  intro A E α s st a b x y z Q room hi ra rb e hQ
  obtain ⟨c, e1, rfl⟩ := dB_some e
  unfold qNe at e1
  split at e1
  · rename_i h
    cases e1
    obtain ⟨h1, h2, h3⟩ := eqOk_room room h
    obtain ⟨as, r1⟩ := ra.reads
    obtain ⟨bs, r2⟩ := rb.reads
    exact SeqAt.compareNe_reads r1 r2 h1 h2 h3 (stay hi (.bool _) hQ)
  · cases e1
theorem op_lt : Op2 W (compareOp .Lt) (dB qLt) := by
  intro A E α s st a b x y z Q room hi ra rb e hQ
  obtain ⟨c, e1, rfl⟩ := dB_some e
  obtain ⟨i, j, rfl, rfl, e1⟩ := two_ints e1
  obtain ⟨t, rfl⟩ := ra.int_inv
  obtain ⟨u, rfl⟩ := rb.int_inv
  cases e1
  exact PyProof.Rows.lt_int (stay hi (.bool _) hQ)
theorem op_le : Op2 W (compareOp .LtE) (dB qLe) := by
  intro A E α s st a b x y z Q room hi ra rb e hQ
  obtain ⟨c, e1, rfl⟩ := dB_some e
  obtain ⟨i, j, rfl, rfl, e1⟩ := two_ints e1
  obtain ⟨t, rfl⟩ := ra.int_inv
  obtain ⟨u, rfl⟩ := rb.int_inv
  cases e1
  exact PyProof.Rows.le_int (stay hi (.bool _) hQ)
theorem op_gt : Op2 W (compareOp .Gt) (dB qGt) := by
  intro A E α s st a b x y z Q room hi ra rb e hQ
  obtain ⟨c, e1, rfl⟩ := dB_some e
  obtain ⟨i, j, rfl, rfl, e1⟩ := two_ints e1
  obtain ⟨t, rfl⟩ := ra.int_inv
  obtain ⟨u, rfl⟩ := rb.int_inv
  cases e1
  exact PyProof.Rows.gt_int (stay hi (.bool _) hQ)
theorem op_ge : Op2 W (compareOp .GtE) (dB qGe) := by
  intro A E α s st a b x y z Q room hi ra rb e hQ
  obtain ⟨c, e1, rfl⟩ := dB_some e
  obtain ⟨i, j, rfl, rfl, e1⟩ := two_ints e1
  obtain ⟨t, rfl⟩ := ra.int_inv
  obtain ⟨u, rfl⟩ := rb.int_inv
  cases e1
  exact PyProof.Rows.ge_int (stay hi (.bool _) hQ)
theorem op_isNone : Op2 W (compareOp .Is) (dB qIsNone) := by
  intro A E α s st a b x y z Q room hi ra rb e hQ
  obtain ⟨c, e1, rfl⟩ := dB_some e
  cases ra <;> cases rb <;> try cases e1
  · exact PyProof.Rows.is_none_none (stay hi (.bool _) hQ)
  · exact PyProof.Rows.is_none_ne (by simp) (stay hi (.bool _) hQ)
theorem op_isNotNone : Op2 W (compareOp .IsNot) (dB qIsNotNone) := by
  intro A E α s st a b x y z Q room hi ra rb e hQ
  obtain ⟨c, e1, rfl⟩ := dB_some e
  cases ra <;> cases rb <;> try cases e1
  · exact PyProof.Rows.isnot_none_none (stay hi (.bool _) hQ)
  · exact PyProof.Rows.isnot_none_ne (by simp) (stay hi (.bool _) hQ)
theorem op_in : Op2 W (compareOp .In) (dB qIn) := by
  intro A E α s st a b x y z Q room hi ra rb e hQ
  obtain ⟨c, e1, rfl⟩ := dB_some e
  cases y <;> try cases e1
  simp only [qIn] at e1
  split at e1
  · rename_i h
    cases e1
    obtain ⟨h1, h2⟩ := Bool.and_eq_true_iff.mp h
    obtain ⟨h3, h4⟩ := Bool.and_eq_true_iff.mp h1
    have := of_decide_eq_true h2
    have := room.un
    obtain ⟨as, r1⟩ := ra.reads
    obtain ⟨bs, r2⟩ := rb.reads
    exact SeqAt.in_list_reads r2 r1 h3 h4 (by omega) (stay hi (.bool _) hQ)
  · cases e1
theorem idx_seq {k : Nat} {i : Int} {j : Nat} (h : idx k i = some j) : (0 ≤ i ∧ j = i.toNat ∧ j < k) ∨ (i < 0 ∧ (-i).toNat ≤ k ∧ j = k - (-i).toNat) := by
  unfold idx at h
  split at h
  · split at h
    · cases h; exact .inl ⟨by assumption, rfl, by assumption⟩
    · cases h
  · split at h
    · cases h; exact .inr ⟨by omega, by assumption, rfl⟩
    · cases h
theorem seqIndex_idx {k : Nat} {i : Int} {j : Nat} (h : idx k i = some j) : seqIndex? i k = some j := by
  unfold seqIndex?
  rcases idx_seq h with ⟨q1, q2, q3⟩ | ⟨q1, q2, q3⟩
  · have e : (if i < 0 then i + (k : Int) else i) = i := if_neg (by omega)
    simp only [e]
    rw [if_pos (Bool.and_eq_true_iff.mpr ⟨decide_eq_true (by omega), decide_eq_true (by omega)⟩), q2]
  · have e : (if i < 0 then i + (k : Int) else i) = i + k := if_pos q1
    have : 0 < (-i).toNat := by omega
    simp only [e]
    rw [if_pos (Bool.and_eq_true_iff.mpr ⟨decide_eq_true (by omega), decide_eq_true (by omega)⟩)]
    congr 1; omega
theorem op_item : Op2 W getItem dItem := by
  intro A E α s st a b x y z Q room hi ra rb e hQ
  cases ra <;> cases rb <;> try cases e
  · rename_i o1 r1 _ _
    simp only [dItem] at e
    split at e
    · rename_i hz
      obtain ⟨h1, h2⟩ := Bool.and_eq_true_iff.mp hz
      have b1 := small_iff h1
      have b2 := szOk_iff h2
      obtain ⟨j, e1, e2⟩ := bind_eq e
      have l1 := r1.length
      simp only [Array.length_toList] at l1
      obtain ⟨v, ev, rv⟩ := r1.get e2
      rcases idx_seq e1 with ⟨q1, q2, q3⟩ | ⟨q1, q2, q3⟩
      · exact wpAny_getItem_list ⟨_, o1, rfl, _, rfl⟩ q1 (by omega) (by rw [← q2, ← Array.getElem?_toList]; exact ev) (stay hi rv hQ)
      · refine wpAny_getItem_list_neg ⟨_, o1, rfl, _, rfl⟩ q1 (by omega) (by omega) ?_ (stay hi rv hQ)
        rw [← Array.getElem?_toList, show ∀ i : Int, ∀ k : Nat, (i + k).toNat = (i + k).toNat from fun _ _ => rfl]
        rw [l1, show (_ + (_ : Int)).toNat = j from by omega]
        exact ev
    · cases e
  · rename_i o1 n1 r1 _ _
    simp only [dItem] at e
    split at e
    · rename_i hz
      obtain ⟨h1, h2⟩ := Bool.and_eq_true_iff.mp hz
      have b1 := small_iff h1
      have b2 := szOk_iff h2
      obtain ⟨j, e1, e2⟩ := bind_eq e
      have l1 := r1.length
      simp only [Array.length_toList] at l1
      obtain ⟨v, ev, rv⟩ := r1.get e2
      refine P.getItem_tuple o1 (by omega) (by omega) (k := j) ?_ (by rw [← Array.getElem?_toList]; exact ev) (stay hi rv hQ)
      rw [l1]; exact seqIndex_idx e1
    · cases e
noncomputable def isSliceE : Expr → Bool
  | .Slice .. => true
  | _ => false
theorem subscripted_plain {slice : Expr} (h : isSliceE slice = false) (o i : Value) : subscripted slice false o i = operate [o, i] (getItem o i) := by
  cases slice <;> first | rfl | cases h
theorem ESim.item {e1 e2 : Expr} {pos : Pos} {f g : PE} (h1 : ESim W n sc e1 f) (h2 : ESim W n sc e2 g) (hsl : isSliceE e2 = false) : ESim W n sc (.Subscript e1 e2 pos) (eOp2 dItem f g) := by
  intro A E env α s vs st v st' Q room hs hf hi he hQ
  obtain ⟨p, q1, he⟩ := bind_eq he
  obtain ⟨q, q2, he⟩ := bind_eq he
  obtain ⟨x, q3, he⟩ := bind_eq he
  obtain ⟨y, q4, he⟩ := bind_eq he
  obtain ⟨z, q5, he⟩ := map_eq he
  cases he
  refine PyProof.Rows.Subscript_ (h1 A E env α s vs st p.1 p.2 _ room hs hf hi q1 fun s1 α1 a sm1 x1 i1 r1 => ?_)
  refine h2 A E env α1 s1 vs p.2 q.1 q.2 _ room hs (hf.step x1) i1 q2 fun s2 α2 b sm2 x2 i2 r2 => ?_
  have ta := (r1.ext x2).rd i2 q3
  have tb := r2.rd i2 q4
  have go : wpAny (model W.prog W.w) A (getItem a b) Q E s2 := op_item A E α2 s2 q.2 a b x y z Q room.zero i2 ta tb q5 fun s3 pv sm3 x3 i3 r3 => hQ s3 α2 pv ((sm1.trans sm2).trans sm3) ((x1.trans x2).trans x3) i3 r3
  cases ta with
  | list ho hr => exact PyProof.Rows.tail_any ⟨_, ho, rfl⟩ slot_list_getitem.lookup go (subscripted_plain hsl _ _)
  | tuple ho hn hr => exact PyProof.Rows.tail_any ⟨_, ho, rfl⟩ F.slot_tuple_getitem.lookup go (subscripted_plain hsl _ _)
  | _ => cases q5
end Mine
end
section
namespace Mine
open PySem
variable {W : Wd} {n : Nat} {sc : Scope}
noncomputable def GName (W : Wd) (x : Str) (v : Value) : Prop := W.mg x = some v ∨ (W.mg x = none ∧ W.mb x = some v)
theorem FrOK.base {h₀ h : Heap} {α : Al} {st : St} {P : Program × World} {C : Addr} (I : Mine.Inv P C h₀ h α st) {a : Addr} {m : Str → Option Value} (x : h₀.Ns a m) : h.Ns a m := x.keeps I.base
theorem name_glob {A : Around} {E : Value → Shared → Prop} {env : Env} {α : Al} {s : Shared} {vs : Vars} {st : St} {x : Str} {pos : Pos} {v : Value} {Q : Value → Shared → Prop}
    (ok : W.Ok) (hs : env.scope = sc) (hf : FrOK W.h₀ s.heap α env vs) (hi : W.Inv s.heap α st) (hx : sc.names.lookup x = some .globalImplicit) (hg : GName W x v) (hd : (x == ("__debug__" : Str)) = false) (h : Q v s) :
    wpAny (model W.prog W.w) A (eval (.Name x pos) env) Q E s := by
  subst hs
  refine Calls.Name_function_global hf.kind hx ?_ hd
  have g1 : s.heap.Ns env.globals W.mg := by rw [hf.glb]; exact FrOK.base hi ok.g
  have b1 : s.heap.Ns env.builtins W.mb := by rw [hf.blt]; exact FrOK.base hi ok.b
  rcases hg with hg | ⟨h1, h2⟩
  · exact Calls.loadGlobal_global g1 hg h
  · exact Calls.loadGlobal_builtin g1 h1 b1 h2 h
noncomputable def KeepOk (W : Wd) (f : Value) : Prop := ∀ h : Heap, (∀ a o, W.h₀.get? a = some o → h.get? a = some o) → ∃ k, (k = Keeper.frame ∨ k = Keeper.machine ∨ k = Keeper.boundFrame) ∧ PySem.W.Looks (model W.prog W.w) h (keeperOf f) k
theorem keepOk_builtin (id : String) : KeepOk W (.builtin id) := fun _ _ => ⟨.machine, .inr (.inl rfl), PySem.W.Looks.of_pure rfl⟩
theorem keepOk_type (T : String) : KeepOk W (.type T) := fun _ _ => ⟨.machine, .inr (.inl rfl), PySem.W.Looks.of_pure rfl⟩
theorem keepOk_fn {f : Addr} {o : Obj} {fd : FuncData} (h : W.h₀.get? f = some o) (hd : o.data = .func fd) : KeepOk W (.ref f) := fun hp hk => ⟨.frame, .inl rfl, by
  obtain ⟨c, d, dt, sl⟩ := o
  cases hd
  exact (PySem.W.Looks.ld (part := none) (hk _ _ h)).andThen .now⟩
theorem backTo_plain (pos : Pos) (env : Env) (es : List Expr) : (backTo pos (es.map fun e => (false, eval e env))).any (·.1) = false := by
  induction es with
  | nil => rfl
  | cons e r ih => simp [backTo]
theorem callWith_sim {A : Around} {E : Value → Shared → Prop} {env : Env} {α : Al} {s : Shared} {vs : Vars} {st : St} {es : List Expr} {fs : List PE} {ps : List PV} {st' : St} {pos : Pos} {f : Value} {first : List Value} {Q : Value → Shared → Prop}
    (h : ESims W n sc es fs) (hst : es.all notStar = true) (hk : KeepOk W f) (room : Room A n) (hs : env.scope = sc) (hf : FrOK W.h₀ s.heap α env vs) (hi : W.Inv s.heap α st) (he : eSeq fs vs st = some (ps, st'))
    (hQ : ∀ s' α' pvs, same s s' → Ext [] s.heap α s'.heap α' → W.Inv s'.heap α' st' → RepVs s'.heap α' pvs ps → wpAny (model W.prog W.w) A (call f (first ++ pvs)) Q E s') :
    wpAny (model W.prog W.w) A (callWith pos f first (backTo pos (starEach es env)) (backToKw pos (keywordEach [] env))) Q E s := by
  rw [starEach_plain env es hst]
  refine PySem.W.callWith_of (P := fun h => ∀ a o, W.h₀.get? a = some o → h.get? a = some o) (by rw [backTo_plain]; rfl) hk ?_
  show wpAny _ A (evalArgs f true _ []) _ E s
  cases h with
  | nil =>
    cases he
    refine evalArgs_none ⟨hi.base, ?_⟩
    exact hQ s α [] (.refl s) (.refl _ _ _) hi .nil
  | cons h1 h2 =>
    refine Calls.evalArgs_plain ?_
    exact spliced_sim pos (.cons h1 h2) room hs hf hi he fun s' α' pvs sm x i r => ⟨i.base, hQ s' α' pvs sm x i r⟩
theorem eval_Call_Name (x : Str) (p : Pos) (args : List Expr) (pos : Pos) (env : Env) : eval (.Call (.Name x p) args [] pos) env = (do
    callWith pos (← eval (.Name x p) env) [] (backTo pos (starEach args env)) (backToKw pos (keywordEach [] env))) := rfl
theorem eSeq_one {f : PE} {vs : Vars} {st st' : St} {v : PV} (h : f vs st = some (v, st')) : eSeq [f] vs st = some ([v], st') := by
  unfold eSeq; rw [h]; rfl
theorem eSeq_two {f g : PE} {vs : Vars} {st st' st'' : St} {v u : PV} (h : f vs st = some (v, st')) (h2 : g vs st' = some (u, st'')) : eSeq [f, g] vs st = some ([v, u], st'') := by
  unfold eSeq; rw [h, Option.bind_some, eSeq_one h2]; rfl
theorem ESim.call1 {x : Str} {p pos : Pos} {e : Expr} {fe : PE} {f : Value} {d : PyData → Option PyData} (ok : W.Ok) (hx : sc.names.lookup x = some .globalImplicit) (hg : GName W x f) (hd : (x == ("__debug__" : Str)) = false) (hk : KeepOk W f)
    (ho : Op1 W (fun a => call f [a]) d) (h : ESim W n sc e fe) (hst : notStar e = true) : ESim W n sc (.Call (.Name x p) [e] [] pos) (eOp1 d fe) := by
  intro A E env α s vs st v st' Q room hs hf hi he hQ
  obtain ⟨q, e1, he⟩ := bind_eq he
  obtain ⟨y, e3, he⟩ := bind_eq he
  obtain ⟨z, e5, he⟩ := map_eq he
  cases he
  rw [eval_Call_Name]
  refine wpAny_bind (name_glob ok hs hf hi hx hg hd ?_)
  refine callWith_sim (.cons h .nil) (by simp [hst]) hk room hs hf hi (eSeq_one e1) fun s1 α1 pvs sm1 x1 i1 r1 => ?_
  cases r1 with
  | cons ra rn =>
    cases rn
    exact ho A E α1 s1 q.2 _ y z Q room.zero i1 (ra.rd i1 e3) e5 fun s3 pv sm3 x3 i3 r3 => hQ s3 α1 pv (sm1.trans sm3) (x1.trans x3) i3 r3
theorem ESim.call2 {x : Str} {p pos : Pos} {e g : Expr} {fe fg : PE} {f : Value} {d : PyData → PyData → Option PyData} (ok : W.Ok) (hx : sc.names.lookup x = some .globalImplicit) (hg : GName W x f) (hd : (x == ("__debug__" : Str)) = false) (hk : KeepOk W f)
    (ho : Op2 W (fun a b => call f [a, b]) d) (h : ESim W n sc e fe) (h' : ESim W n sc g fg) (hst : [e, g].all notStar = true) : ESim W n sc (.Call (.Name x p) [e, g] [] pos) (eOp2 d fe fg) := by
  intro A E env α s vs st v st' Q room hs hf hi he hQ
  obtain ⟨q, e1, he⟩ := bind_eq he
  obtain ⟨q', e2, he⟩ := bind_eq he
  obtain ⟨y, e3, he⟩ := bind_eq he
  obtain ⟨y', e4, he⟩ := bind_eq he
  obtain ⟨z, e5, he⟩ := map_eq he
  cases he
  rw [eval_Call_Name]
  refine wpAny_bind (name_glob ok hs hf hi hx hg hd ?_)
  refine callWith_sim (.cons h (.cons h' .nil)) hst hk room hs hf hi (eSeq_two e1 e2) fun s1 α1 pvs sm1 x1 i1 r1 => ?_
  cases r1 with
  | cons ra rn =>
    cases rn with
    | cons rb rn =>
      cases rn
      exact ho A E α1 s1 q'.2 _ _ y y' z Q room.zero i1 (ra.rd i1 e3) (rb.rd i1 e4) e5 fun s3 pv sm3 x3 i3 r3 => hQ s3 α1 pv (sm1.trans sm3) (x1.trans x3) i3 r3
theorem op_abs : Op1 W (fun a => call (.builtin "abs") [a]) dAbs := by
  intro A E α s st a x z Q room hi ra e hQ
  cases ra <;> try cases e
  rename_i i t
  refine PyProof.Rows.call_abs_int fun u tk => ?_
  have : (if i < 0 then -i else i) = (i.natAbs : Int) := by split <;> omega
  rw [this]
  exact tick hi (.int _ _) hQ
theorem op_len : Op1 W (fun a => call (.builtin "len") [a]) dLen := by
  intro A E α s st a x z Q room hi ra e hQ
  cases ra <;> try cases e
  · rename_i o1 r1
    simp only [dLen] at e
    split at e
    · rename_i hz
      cases e
      have l1 := r1.length
      simp only [Array.length_toList] at l1
      have := szOk_iff hz
      refine PyProof.Rows.len_list ⟨_, o1, rfl, _, rfl⟩ (by omega) ?_
      rw [l1]
      exact tick hi (.int _ _) hQ
    · cases e
  · rename_i o1 n1 r1
    simp only [dLen] at e
    split at e
    · rename_i hz
      cases e
      have l1 := r1.length
      simp only [Array.length_toList] at l1
      have := szOk_iff hz
      refine P.len_tuple o1 (by omega) ?_
      rw [l1]
      exact tick hi (.int _ _) hQ
    · cases e
theorem op_tuple : Op1 W (fun a => call (.type "tuple") [a]) dTuple := by
  intro A E α s st a x z Q room hi ra e hQ
  cases ra <;> try cases e
  · rename_i o1 r1
    simp only [dTuple] at e
    split at e
    · rename_i hz
      cases e
      have l1 := r1.length
      simp only [Array.length_toList] at l1
      have := szOk_iff hz
      refine call_tuple_list ⟨_, o1, rfl, _, rfl⟩ (fun h' hk => ?_) (sz_line (by omega))
      obtain ⟨i1, x1⟩ := hi.grow hk
      obtain ⟨i2, x2, r2⟩ := fresh_tuple (s := { s with heap := h' }) i1 (Reps.keep x1.keep0 r1)
      exact hQ _ _ ⟨_, _, rfl⟩ (x1.trans x2) i2 r2
    · cases e
  · rename_i o1 n1 r1
    exact call_tuple_same ⟨_, o1, rfl, _, rfl⟩ (stay hi (.tuple o1 n1 r1) hQ)
theorem Reps.ints {h : Heap} {α : Al} : ∀ {vs : List Value} {xs : List PyData} {l : List Int}, Reps h α vs xs → ints? xs = some l → PyProof.Rows.IntsAre vs l
  | _, _, _, .nil, e => by cases e; exact .nil
  | _, _, l, .cons (x := x) r rs, e => by
    cases r <;> try cases e
    simp only [ints?] at e
    obtain ⟨m, e1, rfl⟩ := map_eq e
    exact .cons _ _ (Reps.ints rs e1)
theorem op_sum : Op1 W (fun a => call (.builtin "sum") [a]) dSum := by
  intro A E α s st a x z Q room hi ra e hQ
  cases ra <;> try cases e
  rename_i l vs k xs o1 r1
  obtain ⟨ns, e1, rfl⟩ := map_eq e
  have hI := r1.ints e1
  obtain ⟨ys, hy⟩ := hI.allInts.items
  have hn : numsOf vs.toList = ns := hI.numsOf
  rw [show vs.toList.toArray = vs by simp] at hy
  have hl : s.heap.IsList l (intItems ys) := ⟨_, o1, rfl, k, by rw [← hy]⟩
  rw [hy, nums_intItems] at hn
  refine sum_intListG room.hd hl fun h' tk t' hk => ?_
  rw [preSum_eq, List.take_of_length_le (by simp), hn]
  exact grown hi hk (.int _ _) hQ
theorem op_max : Op2 W (fun a b => call (.builtin "max") [a, b]) dMax := by
  intro A E α s st a b x y z Q room hi ra rb e hQ
  obtain ⟨i, j, rfl, rfl, e'⟩ := two_ints e
  cases e'
  clear e
  obtain ⟨t, rfl⟩ := ra.int_inv
  obtain ⟨u, rfl⟩ := rb.int_inv
  refine max_two_ints room.hd fun h' tk hk => ?_
  by_cases h : j > i
  · rw [if_pos h, show max i j = j by omega] at *
    exact grown hi hk (.int _ _) hQ
  · rw [if_neg h, show max i j = i by omega] at *
    exact grown hi hk (.int _ _) hQ
theorem op_min : Op2 W (fun a b => call (.builtin "min") [a, b]) dMin := by
  intro A E α s st a b x y z Q room hi ra rb e hQ
  obtain ⟨i, j, rfl, rfl, e'⟩ := two_ints e
  cases e'
  clear e
  obtain ⟨t, rfl⟩ := ra.int_inv
  obtain ⟨u, rfl⟩ := rb.int_inv
  refine min_two_ints room.hd fun h' tk hk => ?_
  by_cases h : j < i
  · rw [if_pos h, show min i j = j by omega] at *
    exact grown hi hk (.int _ _) hQ
  · rw [if_neg h, show min i j = i by omega] at *
    exact grown hi hk (.int _ _) hQ
noncomputable def FSim (W : Wd) (n : Nat) (f : Value) (F : PF) : Prop :=
  ∀ (A : Around) (R : Result → Shared → Prop) (s : Shared) (α : Al) (st : St) (args : List PV) (vargs : List Value) (v : PV) (st' : St), Room A n → W.Inv s.heap α st → RepVs s.heap α vargs args → F args st = some (v, st') →
    (∀ s' α' pv, same s s' → Ext [] s.heap α s'.heap α' → W.Inv s'.heap α' st' → RepV s'.heap α' pv v → R (.ok (.ret pv)) s') → codeAny (model W.prog W.w) A (.call f ⟨vargs, []⟩) R s
theorem ESim.call {x : Str} {p pos : Pos} {es : List Expr} {fs : List PE} {f : Value} {F : PF} (ok : W.Ok) (hx : sc.names.lookup x = some .globalImplicit) (hg : GName W x f) (hd : (x == ("__debug__" : Str)) = false) (hk : KeepOk W f)
    (hF : FSim W n f F) (h : ESims W n sc es fs) (hst : es.all notStar = true) : ESim W n sc (.Call (.Name x p) es [] pos) (eCall F fs) := by
  intro A E env α s vs st v st' Q room hs hf hi he hQ
  obtain ⟨q, e1, he⟩ := bind_eq he
  rw [eval_Call_Name]
  refine wpAny_bind (name_glob ok hs hf hi hx hg hd ?_)
  refine callWith_sim h hst hk room hs hf hi e1 fun s1 α1 pvs sm1 x1 i1 r1 => ?_
  refine wpAny_call (hF A _ s1 α1 q.2 q.1 pvs v st' room i1 r1 he fun s2 α2 pv sm2 x2 i2 r2 => ?_)
  exact hQ s2 α2 pv (sm1.trans sm2) (x1.trans x2) i2 r2
end Mine
end
section
namespace Mine
open PySem
variable {W : Wd} {n : Nat} {sc : Scope}
structure ClsOk (W : Wd) : Prop where
  ga : PySem.W.findIn W.K (.ref W.C) "__getattribute__" = some (some (.builtin "object.__getattribute__"))
  gn : PySem.W.findIn W.K (.ref W.C) "__getattr__" = some none
  hd : PySem.W.hasDictIn W.K W.C = true
  sa : PySem.W.findIn W.K (.ref W.C) "__setattr__" = some (some (.builtin "object.__setattr__"))
  po : PySem.W.plainOver W.K W.C = true
end Mine
namespace Mine
open PySem
variable {W : Wd} {n : Nat} {sc : Scope}
section
variable {prog : Program} {w : World} {h : Heap} {α : Al}
theorem ents_look {k : Nat} {pv : PV} (hk' : k < nN) {kvs : List (Str × Value)} {ps : List (Nat × PV)} (q : Ents h α kvs ps) : ∀ {es : List DictEntry}, PySem.Pairs (strKind prog w) es kvs → ps.lookup k = some pv →
    ∃ en, es.find? (·.key.isStr (nm k)) = some en ∧ RepV h α en.val pv := by
  induction q with
  | nil => intro es hp e; cases e
  | @cons j v pv' kvs ps hj r q ih =>
    intro es hp e
    cases hp with
    | @cons en _ es _ hk hv p =>
      rw [List.lookup_cons] at e
      rw [List.find?_cons, PySem.W.isStr_of]
      by_cases hkj : k = j
      · subst hkj
        simp only [beq_self_eq_true] at e
        cases e
        have : Value.isStrOf (nm k) en.key = true := hk
        rw [this]
        exact ⟨en, rfl, hv ▸ r⟩
      · have hb : (k == j) = false := beq_eq_false_iff_ne.mpr hkj
        rw [hb] at e
        have h1 : Value.isStrOf (nm j) en.key = true := hk
        have : Value.isStrOf (nm k) en.key = false := by
          cases hb2 : Value.isStrOf (nm k) en.key with
          | false => rfl
          | true => exact absurd (nm_inj hk' hj (Value.isStrOf_inj _ _ _ hb2 h1)) hkj
        rw [this]
        exact ih p e
theorem ents_none {x : Str} {kvs : List (Str × Value)} {ps : List (Nat × PV)} (q : Ents h α kvs ps) : ∀ {es : List DictEntry}, PySem.Pairs (strKind prog w) es kvs → (∀ k, k ∈ ps.map (·.1) → nm k ≠ x) → es.find? (·.key.isStr x) = none := by
  induction q with
  | nil => intro es hp hx; cases hp; rfl
  | @cons j v pv' kvs ps hj r q ih =>
    intro es hp hx
    cases hp with
    | @cons en _ es _ hk hv p =>
      rw [List.find?_cons, PySem.W.isStr_of]
      have h1 : Value.isStrOf (nm j) en.key = true := hk
      have : Value.isStrOf x en.key = false := by
        cases hb2 : Value.isStrOf x en.key with
        | false => rfl
        | true => exact absurd (Value.isStrOf_inj _ _ _ h1 hb2) (hx j (by simp))
      rw [this]
      exact ih p fun k hm => hx k (by simp [hm])
theorem pairs_noRef : ∀ {es : List DictEntry} {kvs : List (Str × Value)}, PySem.Pairs (strKind prog w) es kvs → es.any (·.refKey) = false
  | _, _, .nil => rfl
  | en :: es, _, .cons hk hv p => by
    rw [List.any_cons, pairs_noRef p, Bool.or_false]
    obtain ⟨t, e⟩ := Value.isStrOf_shape hk
    simp [DictEntry.refKey, e]
theorem handed_rep {v : Value} {pv : PV} (r : RepV h α v pv) : PySem.W.handedIn v = true := by
  cases pv with
  | d x => cases r <;> rfl
  | ref i => obtain ⟨a, _, rfl⟩ := r; rfl
end
theorem attrs_of {α : Al} {h : Heap} {st : St} (hi : W.Inv h α st) {v : Value} {p : PV} {j : Nat} {es : List (Nat × PV)} (r : RepV h α v p) (e : attrsOf st p = some (j, es)) :
    ∃ a ad kvs o ds ep, v = .ref a ∧ α.hs[j]? = some ad ∧ st[j]? = some (.sdict es) ∧ h.get? a = some { cls := .ref W.C, dict := some ad } ∧ h.get? ad = some o ∧ o.ExactDict ∧ o.data = .dict ds ep ∧ KeysOf (strKind W.prog W.w) ds ∧ PySem.Pairs (strKind W.prog W.w) ds.toList kvs ∧ (kvs.map (·.1)).Nodup ∧ Ents h α kvs es ∧
      PySem.W.InstAt h a { cls := .ref W.C, dict := some ad } W.C (some o) := by
  cases p with
  | d x => cases e
  | ref i =>
    obtain ⟨a, ea, rfl⟩ := r
    simp only [attrsOf] at e
    split at e
    · rename_i di q
      split at e
      · rename_i es' q'
        cases e
        obtain ⟨ad, e1, e2⟩ := hi.objs i a _ ea q
        obtain ⟨kvs, ⟨o, ds, ep, e3, e4, e5, e6, e7, e8⟩, e9⟩ := hi.objs j ad _ e1 q'
        exact ⟨a, ad, kvs, o, ds, ep, rfl, e1, q', e2, e3, e4, e5, e6, e7, e8, e9, e2, rfl, rfl, e3⟩
      · cases e
    · cases e
theorem ESim.attr {e : Expr} {attr : Str} {pos : Pos} {f : PE} (k : Nat) (ok : W.Ok) (co : ClsOk W) (h : ESim W n sc e f) (hb : ∀ env whole, attributeBase e attr env whole = whole) (ht : ∀ o r, letTemporaryGo e o r = pure ()) (ha : attr = nm k) (hk : k < nN)
    (hno : PySem.W.findIn W.K (.ref W.C) attr = some none) : ESim W n sc (.Attribute e attr pos) (eAttr f k) := by
  intro A E env α s vs st v st' Q room hs hf hi he hQ
  subst ha
  obtain ⟨q, e1, he⟩ := bind_eq he
  obtain ⟨z, e2, he⟩ := bind_eq he
  obtain ⟨y, e3, he⟩ := map_eq he
  cases he
  rw [arm_eval_Attribute, hb]
  refine wpAny_bind (h A E env α s vs st q.1 q.2 _ room hs hf hi e1 fun s1 α1 pv sm1 x1 i1 r1 => ?_)
  obtain ⟨j, es⟩ := z
  obtain ⟨a, ad, kvs, o, ds, ep, rfl, g1, g2, g3, g4, g5, g6, g7, g8, g9, g10, I⟩ := attrs_of i1 r1 e2
  obtain ⟨en, f1, f2⟩ := ents_look hk g10 g8 e3
  refine wpAny_bind (wpAny_standAt (wpAny_bind (wpAny_holding ?_)))
  have look : PySem.W.lookIn (nm k) o = some (some en.val) := by
    unfold PySem.W.lookIn
    rw [g6]
    dsimp only
    rw [f1]
  refine PySem.W.get_value (fun b ob e => i1.base b ob (ok.kin b ob e)) I co.ga (PySem.W.findObj_own co.hd hno rfl look) (handed_rep f2) ?_
  rw [ht]
  exact wpAny_bind (wpAny_pure (wpAny_pure (hQ _ α1 en.val (sm1.trans ⟨_, _, rfl⟩) x1 i1 f2)))
theorem valueAt_ents {α : Al} {h : Heap} : ∀ {kvs : List (Str × Value)} {ps : List (Nat × PV)}, Ents h α kvs ps → ∀ {k : Nat} {pv : PV}, k < nN → ps.lookup k = some pv → ∃ v, valueAt kvs (nm k) = some v ∧ RepV h α v pv
  | _, _, .nil, k, pv, _, e => by cases e
  | _, _, .cons (k := j) (v := v) (es := es) (ps := ps) hj r q, k, pv, hk, e => by
    rw [List.lookup_cons] at e
    by_cases hkj : k = j
    · subst hkj
      simp only [beq_self_eq_true] at e
      cases e
      exact ⟨v, by simp [valueAt], r⟩
    · have hb : (k == j) = false := beq_eq_false_iff_ne.mpr hkj
      rw [hb] at e
      obtain ⟨v', e1, r1⟩ := valueAt_ents q hk e
      refine ⟨v', ?_, r1⟩
      have hne : nm j ≠ nm k := fun z => hkj (nm_inj hk hj z.symm)
      simpa [valueAt, hne] using e1
theorem findBy_pairs {K : Type} [DecidableEq K] {prog : Program} {w : World} {knd : PySem.KeyKind prog w K} {ds : Array DictEntry} {kvs : List (K × Value)} (p : PySem.Pairs knd ds.toList kvs) (k : K) : findBy knd.is ds k = valueAt kvs k := by
  unfold findBy valueAt
  rw [← Array.find?_toList]
  generalize ds.toList = l at p
  induction p with
  | nil => rfl
  | @cons e kv es kvs hk hv p ih =>
    rw [List.find?_cons, List.find?_cons, KeyKind.is_eq_decide hk]
    by_cases q : kv.1 = k
    · simp [q, hv]
    · simp [q, Ne.symm q, ih]
theorem mapOf_dict {K : Type} [DecidableEq K] {prog : Program} {w : World} {knd : PySem.KeyKind prog w K} {h : Heap} {a : Addr} {kvs : List (K × Value)} (d : h.DictOf knd a kvs) : h.MapOf knd a (valueAt kvs) := by
  obtain ⟨o, ds, ep, ho, hc, hd, hk, hp, hn⟩ := d
  exact ⟨o, ds, ep, ho, hc, hd, hk, fun k => findBy_pairs hp k⟩
theorem ESim.key {e : Expr} {key : Str} {kk : Nat} {p pos : Pos} {f : PE} (k : Nat) (h : ESim W n sc e f) (ha : key = nm k) (hk : k < nN) : ESim W n sc (.Subscript e (.Constant (.str key) kk p) pos) (eKey f k) := by
  intro A E env α s vs st v st' Q room hs hf hi he hQ
  subst ha
  obtain ⟨q, e1, he⟩ := bind_eq he
  obtain ⟨q1, q2⟩ := q
  cases q1 with
  | d x => cases he
  | ref i =>
    dsimp only at he
    split at he
    · rename_i es g
      obtain ⟨y, e3, he⟩ := map_eq he
      cases he
      refine PyProof.Rows.Subscript_ (h A E env α s vs st _ _ _ room hs hf hi e1 fun s1 α1 pv sm1 x1 i1 r1 => ?_)
      refine Calls.Constant_str ?_
      obtain ⟨a, ea, rfl⟩ := r1
      obtain ⟨kvs, d, en⟩ := i1.objs i a _ ea g
      obtain ⟨u, e4, r4⟩ := valueAt_ents en hk e3
      have hT : ({ s1 with toks := s1.toks + 1 } : Shared).TypeIs (.ref a) "dict" := by obtain ⟨o, _, _, ho, hc, _⟩ := d; exact ⟨o, ho, hc.1⟩
      refine PyProof.Rows.tail_any hT slot_dict_getitem.lookup ?_ (subscripted_plain rfl _ _)
      refine wpAny_getItem_of (strKind_is W.prog W.w (nm k) _) (mapOf_dict d) e4 ?_
      exact hQ _ α1 u (sm1.trans ⟨_, _, rfl⟩) x1 i1 r4
    · cases he
theorem methodCall_line (o : Expr) (env : Env) (apos pos : Pos) (h : (apos.endLine == pos.line) = true) : methodCallPos true o env apos pos = pure pos := by unfold methodCallPos; simp [h]
theorem form_plain {pos : Pos} {env : Env} (es : List Expr) (hst : es.all notStar = true) (hlen : es.length < 30) : methodCallForm (es.length + ([] : List Keyword).length) (backTo pos (starEach es env)) (backToKw pos (keywordEach [] env)) = true := by
  unfold methodCallForm
  rw [starEach_plain env es hst]
  have : (backTo pos (es.map fun e => (false, eval e env))).all (!·.1) = true := by
    rw [List.all_eq_not_any_not]
    simp only [Bool.not_not]
    rw [backTo_plain]; rfl
  rw [this]
  simp [backToKw, keywordEach, hlen]
theorem ESim.meth {e : Expr} {name : Str} {apos pos : Pos} {f : PE} {es : List Expr} {fs : List PE} {a : Addr} {F : PF} {fo : Obj} {fd : FuncData} (ok : W.Ok) (co : ClsOk W) (h : ESim W n sc e f) (hb : ∀ env whole, attributeBase e name env whole = whole)
    (hm : PySem.W.findIn W.K (.ref W.C) name = some (some (.ref a))) (hfn : PySem.W.typeIn W.K (.ref a) = some (.type "function")) (hfo : W.h₀.get? a = some fo) (hfd : fo.data = .func fd) (hF : FSim W n (.ref a) F) (hs' : ESims W n sc es fs) (hst : es.all notStar = true)
    (hlen : es.length < 30) (hline : (apos.endLine == pos.line) = true) (hname : (attrCodes.all fun k => decide (nm k ≠ name)) = true) : ESim W n sc (.Call (.Attribute e name apos) es [] pos) (eMeth F f fs) := by
  intro A E env α s vs st v st' Q room hs hf hi he hQ
  obtain ⟨q, e1, he⟩ := bind_eq he
  obtain ⟨z, e2, he⟩ := bind_eq he
  split at he
  · rename_i hz
    obtain ⟨r, e3, he⟩ := bind_eq he
    rw [arm_eval_Call, hb]
    refine wpAny_bind (h A E env α s vs st q.1 q.2 _ room hs hf hi e1 fun s1 α1 pv sm1 x1 i1 r1 => ?_)
    refine wpAny_bind (wpAny_standAt ?_)
    unfold methodCall
    rw [form_plain es hst hlen]
    obtain ⟨j, es'⟩ := z
    obtain ⟨x, ad, kvs, o, ds, ep, rfl, g1, g2, g3, g4, g5, g6, g7, g8, g9, g10, I⟩ := attrs_of i1 r1 e2
    have look : PySem.W.lookIn name o = some none := by
      unfold PySem.W.lookIn
      rw [g6]
      dsimp only
      rw [ents_none g10 g8 fun k hm => ?_, pairs_noRef g8]
      · rfl
      · obtain ⟨e, he', rfl⟩ := List.mem_map.mp hm
        have h1 := List.all_eq_true.mp hz e he'
        exact of_decide_eq_true (List.all_eq_true.mp hname e.1 (by simpa using h1))
    refine wpAny_bind (wpAny_holding ?_)
    refine PySem.W.method_fn (fun b ob e => i1.base b ob (ok.kin b ob e)) I co.ga co.gn hm hfn (by unfold PySem.W.shadowIn; dsimp only; rw [look]; rfl) ?_
    rw [methodCall_line _ _ _ _ hline]
    refine wpAny_bind (wpAny_pure ?_)
    refine callWith_sim hs' hst (keepOk_fn hfo hfd) room hs (hf.step x1) i1 e3 fun s2 α2 pvs sm2 x2 i2 r2 => ?_
    refine wpAny_call (hF A _ s2 α2 r.2 (q.1 :: r.1) _ v st' room i2 (.cons (r1.ext x2) r2) he fun s3 α3 pv3 sm3 x3 i3 r3 => ?_)
    exact hQ s3 α3 pv3 ((sm1.trans sm2).trans sm3) ((x1.trans x2).trans x3) i3 r3
  · cases he
end Mine
end
section
namespace Mine
open PySem
variable {W : Wd} {n : Nat} {sc : Scope}
theorem attrBase_name (x : Str) (p : Pos) (attr : Str) (env : Env) (whole : Sem Value) : attributeBase (.Name x p) attr env whole = whole := rfl
theorem attrBase_attr (e : Expr) (y : Str) (p : Pos) (attr : Str) (env : Env) (whole : Sem Value) : attributeBase (.Attribute e y p) attr env whole = whole := rfl
theorem attrBase_sub (e i : Expr) (p : Pos) (attr : Str) (env : Env) (whole : Sem Value) : attributeBase (.Subscript e i p) attr env whole = whole := rfl
theorem isList_iff {st : St} {i : Nat} (h : isList st i = true) : ∃ xs, st[i]? = some (.list xs) := by
  unfold isList at h
  split at h
  · rename_i xs q; exact ⟨xs, q⟩
  · cases h
theorem ESim.append {e a : Expr} {apos pos : Pos} {f g : PE} (h : ESim W n sc e f) (hb : ∀ env whole, attributeBase e "append" env whole = whole) (ha : ESim W n sc a g) (hst : notStar a = true) (hline : (apos.endLine == pos.line) = true) :
    ESim W n sc (.Call (.Attribute e "append" apos) [a] [] pos) (eAppend f g) := by
  intro A E env α s vs st v st' Q room hs hf hi he hQ
  obtain ⟨q, e1, he⟩ := bind_eq he
  obtain ⟨q1, q2⟩ := q
  cases q1 with
  | d x => cases he
  | ref i =>
    dsimp only at he
    split at he
    · rename_i hli
      obtain ⟨r, e2, he⟩ := bind_eq he
      split at he
      · rename_i xs y g1 g2
        split at he
        · rename_i hz
          cases he
          refine wpAny_Call_method (T := "list") (id := "list.append") (hb _ _) (form_plain [a] (by simp [hst]) (by simp)) hline F.plainAttrs_list slot_list_append type_list_append ?_
          refine h A E env α s vs st _ _ _ room hs hf hi e1 fun s1 α1 pv sm1 x1 i1 r1 => ?_
          obtain ⟨ad, ea, rfl⟩ := r1
          obtain ⟨r0, r3⟩ := r
          obtain ⟨xs0, g0⟩ := isList_iff hli
          obtain ⟨vs0, k0, ho0, -⟩ := i1.objs i ad _ ea g0
          refine ⟨⟨_, ho0, rfl⟩, fun b hb => by cases hb; exact ⟨_, ho0, rfl⟩, ?_⟩
          refine callWith_sim (.cons ha .nil) (by simp [hst]) (keepOk_builtin _) room hs (hf.step x1) i1 (eSeq_one e2) fun s2 α2 pvs sm2 x2 i2 r2 => ?_
          cases r2 with
          | cons ra rn =>
            cases rn
            simp only at g1 g2
            subst g2
            have ea2 := x2.idx ea
            obtain ⟨vs', k', ho, hr⟩ := i2.objs i ad _ ea2 g1
            have hl := hr.length
            simp only [Array.length_toList] at hl
            have hz' := szOk_iff hz
            refine wpAny_list_append_plain (items := vs') ⟨_, ho⟩ (fun h' hp hs' => ?_) (sz_line (by omega))
            obtain ⟨k2, ho2⟩ := hp
            obtain ⟨i3, x3⟩ := i2.change (o := .list (xs ++ [y])) ea2 (fun b ob hb e => hs'.extBut b ob hb e) ⟨_, ho2⟩ fun _ K => ⟨_, _, ho2, by rw [Array.toList_push]; exact (Reps.keep K hr).append (.cons (Rep.keep K ra) .nil)⟩
            exact hQ _ α2 _ ((sm1.trans sm2).trans ⟨_, _, rfl⟩) ((x1.trans x2).trans x3) i3 .none
        · cases he
      · cases he
    · cases he
theorem getLast_get {xs : List PyData} {y : PyData} (h : xs.getLast? = some y) : xs[xs.length - 1]? = some y := by
  rw [List.getLast?_eq_getElem?] at h; exact h
theorem erase_last {vs : Array Value} : (vs.eraseIdxIfInBounds (vs.size - 1)).toList = vs.toList.dropLast := by
  obtain ⟨l⟩ := vs
  unfold Array.eraseIdxIfInBounds
  split
  · rw [Array.toList_eraseIdx]
    simp [List.eraseIdx_length_sub_one]
  · rename_i h
    have : l = [] := by
      cases l with
      | nil => rfl
      | cons a r => simp at h
    subst this; rfl
theorem Reps.dropLast {h : Heap} {α : Al} {vs : List Value} {xs : List PyData} (r : Reps h α vs xs) : Reps h α vs.dropLast xs.dropLast := by
  rw [List.dropLast_eq_take, List.dropLast_eq_take, r.length]; exact r.take _
theorem ESim.pop {e : Expr} {apos pos : Pos} {f : PE} (h : ESim W n sc e f) (hb : ∀ env whole, attributeBase e "pop" env whole = whole) (hline : (apos.endLine == pos.line) = true) :
    ESim W n sc (.Call (.Attribute e "pop" apos) [] [] pos) (ePop f) := by
  intro A E env α s vs st v st' Q room hs hf hi he hQ
  obtain ⟨q, e1, he⟩ := bind_eq he
  obtain ⟨q1, q2⟩ := q
  cases q1 with
  | d x => cases he
  | ref i =>
    dsimp only at he
    split at he
    · rename_i xs g
      split at he
      · rename_i hz
        obtain ⟨y, e2, he⟩ := map_eq he
        cases he
        refine wpAny_Call_method (T := "list") (id := "list.pop") (hb _ _) (form_plain [] (by simp) (by simp)) hline F.plainAttrs_list F.slot_list_pop F.type_list_pop ?_
        refine h A E env α s vs st _ _ _ room hs hf hi e1 fun s1 α1 pv sm1 x1 i1 r1 => ?_
        obtain ⟨ad, ea, rfl⟩ := r1
        obtain ⟨vs', k', ho, hr⟩ := i1.objs i ad _ ea g
        refine ⟨⟨_, ho, rfl⟩, fun b hb => by cases hb; exact ⟨_, ho, rfl⟩, ?_⟩
        have hl := hr.length
        simp only [Array.length_toList] at hl
        have hz' := szOk_iff hz
        obtain ⟨u, eu, ru⟩ := hr.get (getLast_get e2)
        refine P.pop_list (n := k') ho (y := u) (by rw [← Array.getElem?_toList, hl]; exact eu) ?_ (sz_line (by omega))
        have ho2 := Heap.get?_update_self (Obj.mapSeq fun xs => xs.eraseIdxIfInBounds (vs'.size - 1)) ho rfl
        obtain ⟨i3, x3⟩ := i1.change (h' := s1.heap.update ad (Obj.mapSeq fun xs => xs.eraseIdxIfInBounds (vs'.size - 1))) (o := .list xs.dropLast) ea (fun b ob hb e => (Heap.get?_update_other _ _ (Ne.symm hb)).trans e) ⟨_, ho2⟩
          fun _ K => ⟨_, _, ho2, by rw [erase_last]; exact (Reps.keep K hr).dropLast⟩
        exact hQ _ α1 _ (sm1.trans ⟨_, _, rfl⟩) (x1.trans x3) i3 (Rep.keep x3.keep0 ru)
      · cases he
    · cases he
theorem dictOf_nil {prog : Program} {w : World} {K : Type} [DecidableEq K] (knd : PySem.KeyKind prog w K) {h : Heap} {a : Addr} (e : h.get? a = some { cls := .type "dict", data := .dict #[] }) : h.DictOf knd a [] :=
  ⟨_, _, _, e, ⟨rfl, rfl, rfl⟩, rfl, fun _ hm => by simp at hm, .nil, by simp⟩
theorem ESim.newIDict {pos : Pos} : ESim W n sc (.Dict [] [] pos) eNewIDict := by
  intro A E env α s vs st v st' Q room hs hf hi he hQ
  cases he
  rw [eval_Dict_empty]
  refine wpAny_bind (wpAny_standAt ?_)
  unfold newDict
  refine wpAny_newObj_type ?_ (by size_fits)
  obtain ⟨i2, x2⟩ := hi.new (o := .idict []) (fresh_none _) (fun b ob e => Heap.get?_push_of_some ({ cls := .type "dict", data := .dict #[] } : Obj) e) fun _ K => ⟨[], dictOf_nil _ (Heap.get?_push_size _ rfl), rfl⟩
  exact hQ _ _ _ ⟨_, _, rfl⟩ x2 i2 ⟨_, by rw [← hi.len]; simp [Al.add], rfl⟩
inductive Keys : List (Option Expr) → List Nat → Prop
  | nil : Keys [] []
  | cons {x : Str} {kk : Nat} {p : Pos} {k : Nat} {es ks} : x = nm k → k < nN → Keys es ks → Keys (some (.Constant (.str x) kk p) :: es) (k :: ks)
noncomputable def prs (pos : Pos) (env : Env) : List (Option Expr) → List Expr → List (Sem Value × Sem Value)
  | some k :: ks, e :: es => (eval k env, do let x ← eval e env; standAt pos; pure x) :: prs pos env ks es
  | _, _ => []
theorem prs_shape (pos : Pos) (env : Env) {keys : List (Option Expr)} {ks : List Nat} (hk : Keys keys ks) : ∀ {es : List Expr}, keys.length = es.length →
    (evalEachOpt keys env).zip ((evalEach es env).map fun v => do let x ← v; standAt pos; pure x) = (prs pos env keys es).map (fun p => (some p.1, p.2)) ∧ (prs pos env keys es).length = es.length := by
  induction hk with
  | nil => intro es hl; cases es with
    | nil => exact ⟨rfl, rfl⟩
    | cons e es => cases hl
  | cons hx hkn hk ih =>
    intro es hl
    cases es with
    | nil => cases hl
    | cons e es =>
      obtain ⟨h1, h2⟩ := ih (es := es) (by simpa using hl)
      refine ⟨?_, by simp [prs, h2]⟩
      simp only [evalEachOpt, evalOpt, evalEach, List.map_cons, List.zip_cons_cons, prs]
      rw [h1]
theorem evalPairs_sim (pos : Pos) : ∀ {es : List Expr} {fs : List PE}, ESims W n sc es fs → ∀ {keys : List (Option Expr)} {ks : List Nat}, Keys keys ks → keys.length = es.length → ∀ {A : Around} {E : Value → Shared → Prop} {env : Env} {α : Al} {s : Shared} {vs : Vars} {st : St} {ps : List PV} {st' : St} {Q : List (Value × Value) → Shared → Prop},
    Room A n → env.scope = sc → FrOK W.h₀ s.heap α env vs → W.Inv s.heap α st → eSeq fs vs st = some (ps, st') →
    (∀ s' α' kvs, same s s' → Ext [] s.heap α s'.heap α' → W.Inv s'.heap α' st' → Ents s'.heap α' kvs (ks.zip ps) → kvs.map (·.1) = ks.map nm → ∀ out, Carries (strKind W.prog W.w) out kvs → Q out s') →
    wpAny (model W.prog W.w) A (evalPairs (prs pos env keys es)) Q E s := by
  intro es fs h
  induction h with
  | nil =>
    intro keys ks hk hl A E env α s vs st ps st' Q room hs hf hi he hQ
    cases hk with
    | cons _ _ _ => cases hl
    | nil =>
      cases he
      exact evalPairs_nil (hQ s α [] (.refl s) (.refl _ _ _) hi .nil rfl [] trivial)
  | @cons e f es fs h1 h2 ih =>
    intro keys ks hk hl A E env α s vs st ps st' Q room hs hf hi he hQ
    cases hk with
    | nil => cases hl
    | @cons x kk p k keys ks hx hkn hk =>
      subst hx
      obtain ⟨r, e1, e2⟩ := bind_eq he
      obtain ⟨q, e3, e4⟩ := bind_eq e2
      cases e4
      unfold prs
      refine evalPairs_cons (Calls.Constant_str ?_)
      have i0 : W.Inv ({ s with toks := s.toks + 1 } : Shared).heap α st := hi
      refine wpAny_bind (h1 A E env α _ vs st r.1 r.2 _ room hs hf i0 e1 fun s1 α1 pv sm1 x1 i1 r1 => ?_)
      refine wpAny_bind (wpAny_standAt (wpAny_pure ?_))
      refine ih hk (by simpa using hl) room hs (hf.step x1) i1 e3 fun s2 α2 kvs sm2 x2 i2 en hkeys out hc => ?_
      have sm0 : same s ({ s with toks := s.toks + 1 } : Shared) := ⟨_, _, rfl⟩
      exact hQ s2 α2 ((nm k, pv) :: kvs) ((sm0.trans sm1).trans sm2) (x1.trans x2) i2 (.cons hkn (r1.ext x2) en) (by simp [hkeys]) _ ⟨strKind_is W.prog W.w (nm k) _, rfl, hc⟩
theorem ESim.dict {keys : List (Option Expr)} {es : List Expr} {ks : List Nat} {fs : List PE} {pos : Pos} (h : ESims W n sc es fs) (hk : Keys keys ks) (hl : keys.length = es.length) (h0 : es ≠ []) (hlen : es.length ≤ 15) (hnd : (ks.map nm).Nodup) : ESim W n sc (.Dict keys es pos) (eDict ks fs) := by
  intro A E env α s vs st v st' Q room hs hf hi he hQ
  obtain ⟨q, e1, he⟩ := map_eq he
  cases he
  obtain ⟨p1, p2⟩ := prs_shape pos env hk hl
  refine wpAny_Dict_pairs (knd := strKind W.prog W.w) p1 (fun z => h0 (List.eq_nil_of_length_eq_zero (by rw [← p2, z]; rfl))) (by rw [p2]; exact hlen) ?_
  obtain ⟨i0, x0⟩ := hi.grow fun a o e => Heap.get?_push_of_some ({ cls := .type "dict", data := .dict #[] } : Obj) e
  have hnew : (s.heap.push { cls := .type "dict", data := .dict #[] }).get? s.heap.objs.size = some { cls := .type "dict", data := .dict #[] } := Heap.get?_push_size _ rfl
  have hoff := Al.off (Mine.Inv.off hi (fresh_none s.heap))
  refine evalPairs_sim pos h hk hl room hs (hf.step x0) i0 e1 fun s1 α1 kvs sm1 x1 i1 en hkeys out hc => ?_
  have hd1 := x1.keep _ _ hoff (by simp) hnew
  refine ⟨kvs, hc, dictOf_nil _ hd1, fun h' hd hs' => ?_⟩
  rw [merged_nil_of_nodup kvs (by rw [hkeys]; exact hnd)] at hd
  have hoff1 := x1.off hoff hnew
  have hx0n : s.heap.get? s.heap.objs.size = .none := fresh_none _
  have hb0 : W.h₀.get? s.heap.objs.size = .none := by
    cases z : W.h₀.get? s.heap.objs.size with
    | none => rfl
    | some o => rw [hi.base _ _ z] at hx0n; cases hx0n
  obtain ⟨i2, K2⟩ := i1.adopt (h' := h') (o := .sdict (ks.zip q.1)) hoff1 hb0 (fun o e ⟨vs, k, hd⟩ => by rw [hd1] at e; cases e; cases hd) (fun b ob hb e => hs'.extBut b ob hb e) (fun b ob e => by
    by_cases hb : b = s.heap.objs.size
    · subst hb; obtain ⟨oo, _, _, eo, _⟩ := id hd; exact ⟨oo, eo⟩
    · exact ⟨ob, hs'.extBut b ob hb e⟩) fun hp K => ⟨kvs, hd, en.keep hp K⟩
  have x01 := x0.trans x1
  have x4 : Ext [] s.heap α h' (α1.add s.heap.objs.size) := by
    obtain ⟨β, e, hb⟩ := x01.app
    refine ⟨⟨β ++ [s.heap.objs.size], by rw [e]; simp [Al.add], fun b hb' => ?_⟩, fun a o ha hx e => ?_, fun a o e => ?_⟩
    · rcases List.mem_append.mp hb' with m | m
      · exact hb b m
      · rw [List.mem_singleton.mp m]; exact hx0n
    · exact hs'.extBut a o (fun z => by rw [z, hx0n] at e; cases e) (x01.keep a o ha hx e)
    · obtain ⟨o', e'⟩ := x01.dom a o e
      exact ⟨o', hs'.extBut a o' (fun z => by rw [z, hx0n] at e; cases e) e'⟩
  have smx : same s ({ s with heap := s.heap.push { cls := .type "dict", data := .dict #[] } } : Shared) := ⟨_, _, rfl⟩
  exact hQ _ _ _ ((smx.trans sm1).trans ⟨_, _, rfl⟩) x4 i2 ⟨_, by rw [← i1.len]; simp [Al.add], rfl⟩
end Mine
end
section
namespace Mine
open PySem
variable {W : Wd} {n : Nat} {sc : Scope}
theorem nat_of {i : Int} (h : 0 ≤ i) : ((i.toNat : Nat) : Int) = i := by omega
theorem slice_run {A : Around} {E : Value → Shared → Prop} {s : Shared} {value slice : Expr} {l : Addr} {items : Array Value} {vl vu : Value} {lo hi : Option Int} {Q : Value → Shared → Prop} {p : Pos} {low up : Option Expr} (he : slice = .Slice low up none p)
    (hl : s.heap.IsList l items) (pl : IsPart vl lo) (pu : IsPart vu hi) (hsz : items.size ≤ sizeLine)
    (h : Q (.ref (s.heap.objs.size + 1)) { s with heap := (s.heap.push { cls := .type "slice", data := .fields #[vl, vu, .none] }).push { cls := .type "list", data := .seq (slicePick items lo hi none) } }) :
    wpAny (model W.prog W.w) A (PyProof.Rows.subscriptTail value slice (.ref l) (.ref s.heap.objs.size)) Q E { s with heap := s.heap.push { cls := .type "slice", data := .fields #[vl, vu, .none] } } := by
  subst he
  refine PyProof.Rows.tail_any (ops := [.ref s.heap.objs.size, .ref l]) (Heap.IsList.typeIs (s := { s with heap := s.heap.push { cls := .type "slice", data := .fields #[vl, vu, .none] } }) (hl.push _)) slot_list_getitem.lookup ?_ rfl
  refine wpAny_getItem_list_slice (hl.push _) (Heap.IsSliceOf.new ..) pl pu .none (by simp) ?_ hsz
  show Q (.ref (s.heap.push _).objs.size) _
  rw [Heap.size_push]
  exact h
theorem slice_new {s : Shared} {α : Al} {st : St} {vs : Array Value} {xs : List PyData} {ob : Obj} (hi : W.Inv s.heap α st) (r : Reps s.heap α vs.toList xs) :
    let h' := (s.heap.push ob).push { cls := .type "list", data := .seq vs }
    W.Inv h' α st ∧ Ext [] s.heap α h' α ∧ Rep h' α (.ref (s.heap.objs.size + 1)) (.list xs) := by
  obtain ⟨i1, x1⟩ := hi.grow fun a o e => Heap.get?_push_of_some ob e
  obtain ⟨i2, x2, r2⟩ := fresh_list (s := { s with heap := s.heap.push ob }) i1 (Reps.keep x1.keep0 r)
  refine ⟨i2, x1.trans x2, ?_⟩
  have : ({ s with heap := s.heap.push ob } : Shared).heap.objs.size = s.heap.objs.size + 1 := Heap.size_push ..
  rw [this] at r2
  exact r2
theorem slice_newM {s : Shared} {α : Al} {st : St} {vs : Array Value} {xs : List PyData} {ob : Obj} (hi : W.Inv s.heap α st) (r : Reps s.heap α vs.toList xs) :
    let h' := (s.heap.push ob).push { cls := .type "list", data := .seq vs }
    ∃ α', W.Inv h' α' (st ++ [.list xs]) ∧ Ext [] s.heap α h' α' ∧ RepV h' α' (.ref (s.heap.objs.size + 1)) (.ref st.length) := by
  obtain ⟨i1, x1⟩ := hi.grow fun a o e => Heap.get?_push_of_some ob e
  obtain ⟨i2, x2, r2⟩ := fresh_mlist (s := { s with heap := s.heap.push ob }) i1 (Reps.keep x1.keep0 r)
  refine ⟨_, i2, x1.trans x2, ?_⟩
  have : ({ s with heap := s.heap.push ob } : Shared).heap.objs.size = s.heap.objs.size + 1 := Heap.size_push ..
  rw [this] at r2 ⊢
  exact r2
theorem ESim.take {e1 e2 : Expr} {p pos : Pos} {f g : PE} (h1 : ESim W n sc e1 f) (h2 : ESim W n sc e2 g) : ESim W n sc (.Subscript e1 (.Slice none (some e2) none p) pos) (eOp2 dTake f g) := by
  intro A E env α s vs st v st' Q room hs hf hi he hQ
  obtain ⟨q, q1, he⟩ := bind_eq he
  obtain ⟨q', q2, he⟩ := bind_eq he
  obtain ⟨x, q3, he⟩ := bind_eq he
  obtain ⟨y, q4, he⟩ := bind_eq he
  obtain ⟨z, q5, he⟩ := map_eq he
  cases he
  refine PyProof.Rows.Subscript_ (h1 A E env α s vs st q.1 q.2 _ room hs hf hi q1 fun s1 α1 a sm1 x1 i1 r1 => ?_)
  refine wpAny_Slice ?_
  rw [evalPart_none, evalPart_some]
  refine wpAny_pure ?_
  refine h2 A E env α1 s1 vs q.2 q'.1 q'.2 _ room hs (hf.step x1) i1 q2 fun s2 α2 b sm2 x2 i2 r2 => ?_
  refine wpAny_pure ?_
  have ta := (r1.ext x2).rd i2 q3
  have tb := r2.rd i2 q4
  cases ta with
  | list o1 rr =>
    cases tb with
    | int i t =>
      simp only [dTake] at q5
      split at q5
      · rename_i hz
        cases q5
        obtain ⟨hz1, hz2⟩ := Bool.and_eq_true_iff.mp hz
        obtain ⟨hz3, hz4⟩ := Bool.and_eq_true_iff.mp hz1
        have b0 := of_decide_eq_true hz3
        have hl := rr.length
        simp only [Array.length_toList] at hl
        have := szOk_iff hz2
        refine slice_run rfl ⟨_, o1, rfl, _, rfl⟩ .none (.int i t) (sz_line (by omega)) ?_
        rw [← nat_of b0, slicePick_upto']
        obtain ⟨i3, x3, r3⟩ := slice_new (vs := (List.take i.toNat _).toArray) (ob := { cls := .type "slice", data := .fields #[.none, .int i t, .none] }) i2 (by simpa using rr.take i.toNat)
        rw [nat_of b0]
        exact hQ _ α2 _ ((sm1.trans sm2).trans ⟨_, _, rfl⟩) ((x1.trans x2).trans x3) i3 r3
      · cases q5
    | _ => cases q5
  | tuple o1 n1 rr => cases tb <;> cases q5
  | _ => cases q5
theorem ESim.drop {e1 e2 : Expr} {p pos : Pos} {f g : PE} (h1 : ESim W n sc e1 f) (h2 : ESim W n sc e2 g) : ESim W n sc (.Subscript e1 (.Slice (some e2) none none p) pos) (eOp2 dDrop f g) := by
  intro A E env α s vs st v st' Q room hs hf hi he hQ
  obtain ⟨q, q1, he⟩ := bind_eq he
  obtain ⟨q', q2, he⟩ := bind_eq he
  obtain ⟨x, q3, he⟩ := bind_eq he
  obtain ⟨y, q4, he⟩ := bind_eq he
  obtain ⟨z, q5, he⟩ := map_eq he
  cases he
  refine PyProof.Rows.Subscript_ (h1 A E env α s vs st q.1 q.2 _ room hs hf hi q1 fun s1 α1 a sm1 x1 i1 r1 => ?_)
  refine wpAny_Slice ?_
  rw [evalPart_none, evalPart_some]
  refine h2 A E env α1 s1 vs q.2 q'.1 q'.2 _ room hs (hf.step x1) i1 q2 fun s2 α2 b sm2 x2 i2 r2 => ?_
  refine wpAny_pure (wpAny_pure ?_)
  have ta := (r1.ext x2).rd i2 q3
  have tb := r2.rd i2 q4
  cases ta with
  | list o1 rr =>
    cases tb with
    | int i t =>
      simp only [dDrop] at q5
      split at q5
      · rename_i hz
        cases q5
        obtain ⟨hz1, hz2⟩ := Bool.and_eq_true_iff.mp hz
        obtain ⟨hz3, hz4⟩ := Bool.and_eq_true_iff.mp hz1
        have b0 := of_decide_eq_true hz3
        have hl := rr.length
        simp only [Array.length_toList] at hl
        have := szOk_iff hz2
        refine slice_run rfl ⟨_, o1, rfl, _, rfl⟩ (.int i t) .none (sz_line (by omega)) ?_
        rw [← nat_of b0, slicePick_from']
        obtain ⟨i3, x3, r3⟩ := slice_new (vs := (List.drop i.toNat _).toArray) (ob := { cls := .type "slice", data := .fields #[.int i t, .none, .none] }) i2 (by simpa using rr.drop i.toNat)
        rw [nat_of b0]
        exact hQ _ α2 _ ((sm1.trans sm2).trans ⟨_, _, rfl⟩) ((x1.trans x2).trans x3) i3 r3
      · cases q5
    | _ => cases q5
  | tuple o1 n1 rr => cases tb <;> cases q5
  | _ => cases q5
theorem ESim.takeM {e1 e2 : Expr} {p pos : Pos} {f g : PE} (h1 : ESim W n sc e1 f) (h2 : ESim W n sc e2 g) : ESim W n sc (.Subscript e1 (.Slice none (some e2) none p) pos) (eTakeM f g) := by
  intro A E env α s vs st v st' Q room hs hf hi he hQ
  obtain ⟨q, q1, he⟩ := bind_eq he
  obtain ⟨q', q2, he⟩ := bind_eq he
  obtain ⟨x, q3, he⟩ := bind_eq he
  obtain ⟨y, q4, he⟩ := bind_eq he
  split at he
  · rename_i zs q5
    cases he
    refine PyProof.Rows.Subscript_ (h1 A E env α s vs st q.1 q.2 _ room hs hf hi q1 fun s1 α1 a sm1 x1 i1 r1 => ?_)
    refine wpAny_Slice ?_
    rw [evalPart_none, evalPart_some]
    refine wpAny_pure ?_
    refine h2 A E env α1 s1 vs q.2 q'.1 q'.2 _ room hs (hf.step x1) i1 q2 fun s2 α2 b sm2 x2 i2 r2 => ?_
    refine wpAny_pure ?_
    have ta := (r1.ext x2).rd i2 q3
    have tb := r2.rd i2 q4
    cases ta <;> cases tb <;> try cases q5
    rename_i o1 rr i t
    simp only [dTake] at q5
    split at q5
    · rename_i hz
      cases q5
      obtain ⟨hz1, hz2⟩ := Bool.and_eq_true_iff.mp hz
      obtain ⟨hz3, hz4⟩ := Bool.and_eq_true_iff.mp hz1
      have b0 := of_decide_eq_true hz3
      have hl := rr.length
      simp only [Array.length_toList] at hl
      have := szOk_iff hz2
      refine slice_run rfl ⟨_, o1, rfl, _, rfl⟩ .none (.int i t) (sz_line (by omega)) ?_
      rw [← nat_of b0, slicePick_upto']
      obtain ⟨α3, i3, x3, r3⟩ := slice_newM (vs := (List.take i.toNat _).toArray) (ob := { cls := .type "slice", data := .fields #[.none, .int i t, .none] }) i2 (by simpa using rr.take i.toNat)
      rw [nat_of b0]
      exact hQ _ α3 _ ((sm1.trans sm2).trans ⟨_, _, rfl⟩) ((x1.trans x2).trans x3) i3 r3
    · cases q5
  · cases he
end Mine
end
section
namespace Mine
open PySem
variable {W : Wd} {n : Nat} {sc : Scope}
theorem FrOK.store {M : Model} {A : Around} {E : Value → Shared → Prop} {env : Env} {α : Al} {s : Shared} {vs : Vars} {st : St} {k : Nat} {v : Value} {pv : PV} {Q : Unit → Shared → Prop} (F : FrOK W.h₀ s.heap α env vs) (I : W.Inv s.heap α st) (hk : k < nN)
    (hl : env.kindOf (nm k) = some .local ∨ env.kindOf (nm k) = some .cell) (r : RepV s.heap α v pv)
    (hQ : ∀ s', same s s' → FrOK W.h₀ s'.heap α env (upd vs k pv) → W.Inv s'.heap α st → Ext (if env.kindOf (nm k) = some .local then [env.locals] else frX env) s.heap α s'.heap α → KeepS s.heap α s'.heap α → Q () s') : wpAny M A (storeName env (nm k) v) Q E s := by
  rcases hl with hl | hl
  · obtain ⟨m, hn, hv⟩ := F.loc
    refine wpAny_storeName_local hl hn (fun h' hn' hs' => ?_) (by rw [F.kind]; rfl)
    have hX : ∀ a ∈ [env.locals], a ∉ α.hs ∧ W.h₀.get? a = none := fun a ha => by rw [List.mem_singleton.mp ha]; exact ⟨F.Lα, F.L0⟩
    have hq : ∀ a ∈ [env.locals], ∀ o, s.heap.get? a = some o → ¬ isSeq o := fun a ha => by rw [List.mem_singleton.mp ha]; exact ns_noSeq hn
    have hk' : ∀ a o, a ∉ [env.locals] → s.heap.get? a = some o → h'.get? a = some o := fun a o ha e => hs'.extBut a o (by simpa using ha) e
    obtain ⟨oL, _, _, eL', _⟩ := id hn'
    obtain ⟨i2, x2⟩ := I.keepX (h' := h') [env.locals] hX hq hk' (fun a o e => by
      by_cases ha : a = env.locals
      · subst ha; exact ⟨oL, eL'⟩
      · exact ⟨o, hk' a o (by simpa using ha) e⟩)
    have K := x2.keepS hq
    refine hQ _ ⟨_, _, rfl⟩ ⟨F.kind, F.glb, F.blt, F.L0, F.Lα, ⟨_, hn', fun j pj hj ej ql => ?_⟩, fun p hp => ?_, F.apart, F.chas, fun j pj hj ej qc => ?_⟩ i2 (by rw [if_pos hl]; exact x2) K
    · by_cases hjk : j = k
      · subst hjk
        have : pv = pj := by simpa [upd] using ej
        subst this
        exact ⟨v, by simp, r.keep x2.pre K⟩
      · have ej' : vs j = some pj := by simpa [upd, hjk] using ej
        obtain ⟨u, eu, ru⟩ := hv j pj hj ej' ql
        refine ⟨u, ?_, ru.keep x2.pre K⟩
        show (if nm j = nm k then some v else m (nm j)) = some u
        rw [if_neg fun e => hjk (nm_inj hj hk e)]; exact eu
    · obtain ⟨c0, c1, c2, u, o, eo, hd⟩ := F.cel p hp
      exact ⟨c0, c1, c2, u, o, hk' _ _ (by simpa using c2) eo, hd⟩
    · have hjk : j ≠ k := fun e => by rw [e, hl] at qc; cases qc
      have ej' : vs j = some pj := by simpa [upd, hjk] using ej
      obtain ⟨a, u, e1, ⟨o, eo, hd⟩, ru⟩ := F.cval j pj hj ej' qc
      exact ⟨a, u, e1, ⟨o, hk' _ _ (by simpa using (F.cel _ (mem_of_lookup e1)).2.2.1) eo, hd⟩, ru.keep x2.pre K⟩
  · obtain ⟨c, hc⟩ := F.chas k hk hl
    obtain ⟨c0, c1, c2, v0, hcell⟩ := F.cel _ (mem_of_lookup hc)
    refine wpAny_storeName_cell F.kind hl hc hcell fun h' hc' hs' => ?_
    have hq : ∀ a ∈ [c], ∀ o, s.heap.get? a = some o → ¬ isSeq o := fun a ha => by rw [List.mem_singleton.mp ha]; exact cell_noSeq hcell
    have hk' : ∀ a o, a ∉ [c] → s.heap.get? a = some o → h'.get? a = some o := fun a o ha e => hs'.extBut a o (by simpa using ha) e
    obtain ⟨oC, eC, dC⟩ := id hc'
    obtain ⟨i2, x2⟩ := I.keepX (h' := h') [c] (fun a ha => by rw [List.mem_singleton.mp ha]; exact ⟨c1, c0⟩) hq hk' (fun a o e => by
      by_cases ha : a = c
      · subst ha; exact ⟨oC, eC⟩
      · exact ⟨o, hk' a o (by simpa using ha) e⟩)
    have K := x2.keepS hq
    have hnl : ¬ env.kindOf (nm k) = some .local := by rw [hl]; decide
    have x3 : Ext (frX env) s.heap α h' α := x2.weaken fun a ha => .inl (by rw [List.mem_singleton.mp ha]; exact List.mem_cons_of_mem _ (List.mem_map.mpr ⟨_, mem_of_lookup hc, rfl⟩))
    obtain ⟨m, hn, hv⟩ := F.loc
    refine hQ _ ⟨_, _, rfl⟩ ⟨F.kind, F.glb, F.blt, F.L0, F.Lα, ⟨m, hn.at' fun o e => hk' _ o (by simpa using Ne.symm c2) e, fun j pj hj ej ql => ?_⟩, fun p hp => ?_, F.apart, F.chas, fun j pj hj ej qc => ?_⟩ i2 (by rw [if_neg hnl]; exact x3) K
    · have hjk : j ≠ k := fun e => by rw [e, hl] at ql; cases ql
      have ej' : vs j = some pj := by simpa [upd, hjk] using ej
      obtain ⟨u, eu, ru⟩ := hv j pj hj ej' ql
      exact ⟨u, eu, ru.keep x2.pre K⟩
    · obtain ⟨d0, d1, d2, u, o, eo, hd⟩ := F.cel p hp
      by_cases hpc : p.2 = c
      · exact ⟨d0, d1, d2, some v, by rw [hpc]; exact hc'⟩
      · exact ⟨d0, d1, d2, u, o, hk' _ _ (by simpa using hpc) eo, hd⟩
    · by_cases hjk : j = k
      · subst hjk
        have : pv = pj := by simpa [upd] using ej
        subst this
        exact ⟨c, v, hc, hc', r.keep x2.pre K⟩
      · have ej' : vs j = some pj := by simpa [upd, hjk] using ej
        obtain ⟨a, u, e1, ⟨o, eo, hd⟩, ru⟩ := F.cval j pj hj ej' qc
        refine ⟨a, u, e1, ⟨o, hk' _ _ ?_ eo, hd⟩, ru.keep x2.pre K⟩
        intro ha
        have ha' : a = c := by simpa using ha
        subst ha'
        exact hjk (nm_inj hj hk (name_of_addr F.apart (mem_of_lookup e1) (mem_of_lookup hc)))
inductive NamesAre (sc : Scope) : List Expr → List Nat → Prop
  | nil : NamesAre sc [] []
  | cons {x : Str} {p : Pos} {k : Nat} {es ks} : x = nm k → k < nN → (sc.names.lookup x = some .local ∨ sc.names.lookup x = some .cell) → NamesAre sc es ks → NamesAre sc (.Name x p :: es) (k :: ks)
theorem NamesAre.length : ∀ {es : List Expr} {ks : List Nat}, NamesAre sc es ks → es.length = ks.length
  | _, _, .nil => rfl
  | _, _, .cons _ _ _ q => congrArg (· + 1) (NamesAre.length q)
theorem NamesAre.each {es : List Expr} {ks : List Nat} (h : NamesAre sc es ks) (env : Env) : (assignEach es env).length = es.length ∧ (assignEach es env).findIdx? (·.1) = none := by
  induction h with
  | nil => exact ⟨rfl, rfl⟩
  | cons _ _ _ _ ih => exact ⟨by simp [assignEach, ih.1], by simp [assignEach, List.findIdx?_cons, ih.2]⟩
theorem Ext.toFr {env : Env} {c : Prop} [Decidable c] {h h' : Heap} {α α' : Al} (x : Ext (if c then [env.locals] else frX env) h α h' α') : Ext (frX env) h α h' α' := by
  split at x
  · exact x.weaken fun a ha => .inl (by rw [List.mem_singleton.mp ha]; exact List.mem_cons_self)
  · exact x
theorem RepVs.keep {h h' : Heap} {α α' : Al} (E : Pre α α') (K : KeepS h α h' α') : ∀ {vs : List Value} {ps : List PV}, RepVs h α vs ps → RepVs h' α' vs ps
  | _, _, .nil => .nil
  | _, _, .cons r q => .cons (r.keep E K) (RepVs.keep E K q)
theorem KeepS.trans {h h' h'' : Heap} {α α' α'' : Al} (a : KeepS h α h' α') (b : KeepS h' α' h'' α'') : KeepS h α h'' α'' :=
  ⟨fun x o hx hs e => b.seq x o (a.off x o hx hs e) hs (a.seq x o hx hs e), fun x o hx hs e => b.off x o (a.off x o hx hs e) hs (a.seq x o hx hs e)⟩
theorem KeepS.refl (h : Heap) (α : Al) : KeepS h α h α := ⟨fun _ _ _ _ e => e, fun _ _ h _ _ => h⟩
theorem assignNames_sim {A : Around} {E : Value → Shared → Prop} {env : Env} {es : List Expr} {ks : List Nat} (h : NamesAre sc es ks) (hs : env.scope = sc) : ∀ {α : Al} {s : Shared} {vs vs' : Vars} {st : St} {vals : List Value} {pvs : List PV} {Q : Unit → Shared → Prop}, FrOK W.h₀ s.heap α env vs → W.Inv s.heap α st →
    RepVs s.heap α vals pvs → updAll vs ks pvs = some vs' → (∀ s', same s s' → FrOK W.h₀ s'.heap α env vs' → W.Inv s'.heap α st → Ext (frX env) s.heap α s'.heap α → KeepS s.heap α s'.heap α → Q () s') →
    wpAny (model W.prog W.w) A (assignInOrder ((assignEach es env).map (·.2)) vals) Q E s := by
  induction h with
  | nil =>
    intro α s vs vs' st vals pvs Q F I r e hQ
    cases r with
    | cons _ _ => cases e
    | nil =>
      cases e
      exact wpAny_pure (hQ s (.refl s) F I (.refl _ _ _) (.refl _ _))
  | @cons x p k es ks hx hk hl _ ih =>
    intro α s vs vs' st vals pvs Q F I r e hQ
    cases r with
    | nil => cases e
    | @cons v pv vals pvs r q =>
      subst hx hs
      show wpAny _ A (do holding vals (assign (.Name (nm k) p) env v); assignInOrder ((assignEach es env).map (·.2)) vals) _ _ _
      refine wpAny_bind (wpAny_holding (wpAny_assign_Name (F.store I hk hl r fun s1 sm1 f1 i1 x1 K1 => ?_)))
      exact ih f1 i1 (q.keep x1.pre K1) e fun s2 sm2 f2 i2 x2 K2 => hQ s2 (sm1.trans sm2) f2 i2 (x1.toFr.trans x2) (K1.trans K2)
inductive TgtIs (sc : Scope) : Expr → Tgt → Prop
  | one {x : Str} {p : Pos} {k : Nat} : x = nm k → k < nN → (sc.names.lookup x = some .local ∨ sc.names.lookup x = some .cell) → TgtIs sc (.Name x p) (.one k)
  | two {e1 e2 : Expr} {r : Pos} {kk k l : Nat} : NamesAre sc [e1, e2] [k, l] → TgtIs sc (.Tuple [e1, e2] kk r) (.two k l)
theorem put_two {k l : Nat} {vs vs' : Vars} {x : PyData} (h : Tgt.put (.two k l) vs x = some vs') : ∃ a b, x = .tuple [a, b] ∧ updAll vs [k, l] [.d a, .d b] = some vs' := by
  unfold Tgt.put at h
  split at h
  · rename_i he; cases he
  · rename_i k' l' a b he; cases he; cases h; exact ⟨a, b, rfl, rfl⟩
  · cases h
theorem Reps.two {h : Heap} {α : Al} {vs : List Value} {a b : PyData} (r : Reps h α vs [a, b]) : RepVs h α vs [.d a, .d b] := by
  cases r with
  | cons r1 r => cases r with
    | cons r2 r => cases r; exact .cons r1 (.cons r2 .nil)
theorem Reps.vs {h : Heap} {α : Al} : ∀ {vs : List Value} {xs : List PyData}, Reps h α vs xs → RepVs h α vs (xs.map .d)
  | _, _, .nil => .nil
  | _, _, .cons r q => .cons r (Reps.vs q)
theorem assign_tuple {A : Around} {E : Value → Shared → Prop} {env : Env} {α : Al} {s : Shared} {vs vs' : Vars} {st : St} {es : List Expr} {ks : List Nat} {kk : Nat} {p : Pos} {v : Value} {xs : List PyData} {Q : Unit → Shared → Prop} (ht : NamesAre sc es ks) (hh : A.handled = none) (hs : env.scope = sc)
    (F : FrOK W.h₀ s.heap α env vs) (I : W.Inv s.heap α st) (r : Rep s.heap α v (.tuple xs)) (hp : updAll vs ks (xs.map .d) = some vs') (hlen : xs.length = ks.length)
    (hQ : ∀ s', same s s' → FrOK W.h₀ s'.heap α env vs' → W.Inv s'.heap α st → Ext (frX env) s.heap α s'.heap α → KeepS s.heap α s'.heap α → Q () s') : wpAny (model W.prog W.w) A (assign (.Tuple es kk p) env v) Q E s := by
  cases r with
  | @tuple a items kn _ ho hoff rs =>
    obtain ⟨l1, l2⟩ := ht.each env
    have hl := rs.length
    simp only [Array.length_toList] at hl
    refine wpAny_assign_Tuple hh ⟨_, ho, rfl, _, rfl⟩ (by rw [l1, ht.length, hl, hlen]) l2 fun h' he => ?_
    obtain ⟨i1, x1⟩ := I.grow (h' := h') fun b o e => he b o (Nat.ne_of_lt (Heap.lt_size e)) e
    refine assignNames_sim (s := { s with heap := h' }) ht hs (F.step x1) i1 ((rs.vs).ext x1) hp fun s2 sm2 f2 i2 x2 K2 => ?_
    exact hQ s2 (same.trans ⟨_, _, rfl⟩ sm2) f2 i2 ((x1.weaken (by simp)).trans x2) (x1.keep0.trans K2)
theorem assign_tgt {A : Around} {E : Value → Shared → Prop} {env : Env} {α : Al} {s : Shared} {vs vs' : Vars} {st : St} {e : Expr} {t : Tgt} {v : Value} {x : PyData} {Q : Unit → Shared → Prop} (ht : TgtIs sc e t) (hh : A.handled = none) (hs : env.scope = sc) (F : FrOK W.h₀ s.heap α env vs) (I : W.Inv s.heap α st)
    (r : Rep s.heap α v x) (hp : t.put vs x = some vs') (hQ : ∀ s', same s s' → FrOK W.h₀ s'.heap α env vs' → W.Inv s'.heap α st → Ext (frX env) s.heap α s'.heap α → KeepS s.heap α s'.heap α → Q () s') : wpAny (model W.prog W.w) A (assign e env v) Q E s := by
  cases ht with
  | one hx hk hl =>
    subst hx hs
    cases hp
    exact wpAny_assign_Name (F.store I hk hl (pv := .d x) r fun s' sm f i xx K => hQ s' sm f i xx.toFr K)
  | two hn =>
    obtain ⟨a, b, rfl, h2⟩ := put_two hp
    exact assign_tuple hn hh hs F I r h2 rfl hQ
inductive IterAt (h : Heap) (α : Al) (I : Addr) : List PyData → Nat → Prop
  | list {ax vs xs k n} : h.IsListIter I ax k → h.get? ax = some { cls := .type "list", data := .seq vs n } → ax ∉ α.all → ax ≠ I → Reps h α vs.toList xs → IterAt h α I xs k
  | tuple {ax vs xs k n} : h.IsTupleIter I ax k → h.get? ax = some { cls := .type "tuple", data := .seq vs n } → ax ∉ α.all → ax ≠ I → Reps h α vs.toList xs → IterAt h α I xs k
  | range {a : Int} {xs k} : IsRangeIter h I (a + (k : Nat) * 1) ((xs.length : Nat) - (k : Nat)) 1 → xs = rangeL a xs.length → IterAt h α I xs k
theorem IterAt.there {h : Heap} {α : Al} {I : Addr} {xs : List PyData} {k : Nat} (x : IterAt h α I xs k) : ∃ o, h.get? I = some o ∧ ¬ isSeq o := by
  cases x with
  | list h1 _ _ _ _ => obtain ⟨o, e, _, d⟩ := h1; exact ⟨o, e, fun ⟨vs, n, q⟩ => by rw [d] at q; cases q⟩
  | tuple h1 _ _ _ _ => obtain ⟨o, e, _, d⟩ := h1; exact ⟨o, e, fun ⟨vs, n, q⟩ => by rw [d] at q; cases q⟩
  | range h1 _ => exact ⟨_, h1, fun ⟨vs, n, q⟩ => by cases q⟩
theorem IterAt.keep {h h' : Heap} {α α' : Al} {I : Addr} {xs : List PyData} {k : Nat} (x : IterAt h α I xs k) (K : KeepS h α h' α') (hI : ∀ o, h.get? I = some o → h'.get? I = some o) : IterAt h' α' I xs k := by
  cases x with
  | list h1 h2 h3 h4 h5 => exact .list (h1.at hI) (K.seq _ _ h3 ⟨_, _, rfl⟩ h2) (K.off _ _ h3 ⟨_, _, rfl⟩ h2) h4 (Reps.keep K h5)
  | tuple h1 h2 h3 h4 h5 => exact .tuple (h1.at hI) (K.seq _ _ h3 ⟨_, _, rfl⟩ h2) (K.off _ _ h3 ⟨_, _, rfl⟩ h2) h4 (Reps.keep K h5)
  | range h1 h2 => exact .range (hI _ h1) h2
theorem rangeL_length (a : Int) : ∀ n, (rangeL a n).length = n
  | 0 => rfl
  | n + 1 => by simp [rangeL, rangeL_length (a + 1) n]
theorem rangeL_get : ∀ (n : Nat) (a : Int) (k : Nat), k < n → (rangeL a n)[k]? = some (.int (a + k))
  | n + 1, a, 0, _ => by simp [rangeL]
  | n + 1, a, k + 1, h => by
    simp only [rangeL, List.getElem?_cons_succ]
    rw [rangeL_get n (a + 1) k (by omega)]
    congr 2; omega
theorem IterAt.next {A : Around} {E : Value → Shared → Prop} {α : Al} {s : Shared} {st : St} {I : Addr} {xs : List PyData} {k : Nat} {x : PyData} {Q : Option Value → Shared → Prop} (T : IterAt s.heap α I xs k) (hI : I ∉ α.hs) (hI0 : W.h₀.get? I = none) (i : W.Inv s.heap α st) (hx : xs[k]? = some x)
    (hQ : ∀ s' v, same s s' → W.Inv s'.heap α st → Ext [I] s.heap α s'.heap α → KeepS s.heap α s'.heap α → IterAt s'.heap α I xs (k + 1) → Rep s'.heap α v x → Q (some v) s') : wpAny (model W.prog W.w) A (pyNext (.ref I)) Q E s := by
  obtain ⟨oI, eI, qI⟩ := T.there
  have step : ∀ h' : Heap, Heap.SameBut I s.heap h' → (∃ o, h'.get? I = some o) → W.Inv h' α st ∧ Ext [I] s.heap α h' α ∧ KeepS s.heap α h' α := by
    intro h' hs' hg
    have hq : ∀ a ∈ [I], ∀ o, s.heap.get? a = some o → ¬ isSeq o := fun a ha o e => by rw [List.mem_singleton.mp ha, eI] at e; cases e; exact qI
    obtain ⟨i2, x2⟩ := i.keepX (h' := h') [I] (fun a ha => by rw [List.mem_singleton.mp ha]; exact ⟨hI, hI0⟩) hq (fun a o ha e => hs'.extBut a o (by simpa using ha) e) (fun a o e => by
      by_cases ha : a = I
      · subst ha; exact hg
      · exact ⟨o, hs'.extBut a o ha e⟩)
    exact ⟨i2, x2, x2.keepS hq⟩
  cases T with
  | @list ax vs _ _ n h1 h2 h3 h4 h5 =>
    obtain ⟨v, ev, rv⟩ := h5.get hx
    refine wpAny_pyNext_list_item h1 ⟨_, h2, rfl, _, rfl⟩ (x := v) (by rw [← Array.getElem?_toList]; exact ev) fun h' hit hs' => ?_
    obtain ⟨o', e', _⟩ := id hit
    obtain ⟨i2, x2, K⟩ := step h' hs' ⟨o', e'⟩
    exact hQ _ v ⟨_, _, rfl⟩ i2 x2 K (.list hit (K.seq _ _ h3 ⟨_, _, rfl⟩ h2) h3 h4 (Reps.keep K h5)) (Rep.keep K rv)
  | @tuple ax vs _ _ n h1 h2 h3 h4 h5 =>
    obtain ⟨v, ev, rv⟩ := h5.get hx
    refine wpAny_pyNext_tuple_item h1 ⟨_, h2, rfl, _, rfl⟩ (x := v) (by rw [← Array.getElem?_toList]; exact ev) fun h' hit hs' => ?_
    obtain ⟨o', e', _⟩ := id hit
    obtain ⟨i2, x2, K⟩ := step h' hs' ⟨o', e'⟩
    exact hQ _ v ⟨_, _, rfl⟩ i2 x2 K (.tuple hit (K.seq _ _ h3 ⟨_, _, rfl⟩ h2) h3 h4 (Reps.keep K h5)) (Rep.keep K rv)
  | @range a _ _ h1 h2 =>
    have hk := (List.getElem?_eq_some_iff.mp hx).1
    refine wpAny_pyNext_range_item h1 (by omega) fun h' hit hs' => ?_
    obtain ⟨i2, x2, K⟩ := step h' hs' ⟨_, hit⟩
    rw [h2, rangeL_get _ _ _ hk] at hx
    cases hx
    refine hQ _ _ ⟨_, _, rfl⟩ i2 x2 K (.range (a := a) ?_ h2) (by rw [Int.mul_one]; exact .int _ _)
    have e1 : a + ((k : Nat) : Int) * 1 + 1 = a + ((k + 1 : Nat) : Int) * 1 := by push_cast; omega
    have e2 : ((xs.length : Nat) : Int) - (k : Nat) - 1 = ((xs.length : Nat) : Int) - ((k + 1 : Nat) : Int) := by push_cast; omega
    rw [← e1, ← e2]; exact hit
theorem Inv.lose {P : Program × World} {C : Addr} {h₀ h h' : Heap} {α : Al} {st : St} (i : Mine.Inv P C h₀ h α st) {I : Addr} (hI : I ∉ α.all) (hI0 : h₀.get? I = none) (hq : ∀ o, h.get? I = some o → ¬ isSeq o) (hk : ∀ a o, a ≠ I → h.get? a = some o → h'.get? a = some o) : Mine.Inv P C h₀ h' α st ∧ KeepS h α h' α := by
  have K : KeepS h α h' α := ⟨fun a o _ hs e => hk a o (fun z => hq o (z ▸ e) hs) e, fun _ _ h _ _ => h⟩
  exact ⟨⟨fun a o e => hk a o (fun z => by rw [z, hI0] at e; cases e) (i.base a o e), i.hi, i.nodup, i.len, fun a ha => let ⟨o, e⟩ := i.exs a ha; ⟨o, hk a o (fun z => hI (z ▸ List.mem_append_right _ ha)) e⟩, fun j b ob e1 e2 => (i.objs j b ob e1 e2).keep (fun _ _ e => e) K fun ob' => hk b ob' fun z => hI (z ▸ Al.mem (List.mem_of_getElem? e1))⟩, K⟩
theorem Ext.lose {X : List Addr} {h h' h'' : Heap} {α α' : Al} (x : Ext X h α h' α') {I : Addr} (hI : h.get? I = none) (hk : ∀ a o, a ≠ I → h'.get? a = some o → h''.get? a = some o) : Ext X h α h'' α' :=
  ⟨x.app, fun a o ha hx e => hk a o (fun z => by rw [z, hI] at e; cases e) (x.keep a o ha hx e), fun a o e => let ⟨o', e'⟩ := x.dom a o e; ⟨o', hk a o' (fun z => by rw [z, hI] at e; cases e) e'⟩⟩
theorem FrOK.lose {h₀ h h' : Heap} {α : Al} {env : Env} {vs : Vars} (F : FrOK h₀ h α env vs) {I : Addr} (hI : I ∉ frX env) (hk : ∀ a o, a ≠ I → h.get? a = some o → h'.get? a = some o) (K : KeepS h α h' α) : FrOK h₀ h' α env vs := by
  obtain ⟨m, hn, hv⟩ := F.loc
  have hL : ∀ o, h.get? env.locals = some o → h'.get? env.locals = some o := fun o e => hk _ o (fun z => hI (z ▸ List.mem_cons_self)) e
  have hc : ∀ p ∈ env.cells, p.2 ≠ I := fun p hp z => hI (z ▸ List.mem_cons_of_mem _ (List.mem_map.mpr ⟨p, hp, rfl⟩))
  refine ⟨F.kind, F.glb, F.blt, F.L0, F.Lα, ⟨m, hn.at' hL, fun k pv hk e q => ?_⟩, fun p hp => ?_, F.apart, F.chas, fun k pv hk' e q => ?_⟩
  · obtain ⟨v, ev, r⟩ := hv k pv hk e q
    exact ⟨v, ev, r.keep (fun _ _ e => e) K⟩
  · obtain ⟨c0, c1, c2, v, o, eo, hd⟩ := F.cel p hp
    exact ⟨c0, c1, c2, v, o, hk _ _ (hc p hp) eo, hd⟩
  · obtain ⟨a, v, e1, ⟨o, eo, hd⟩, r⟩ := F.cval k pv hk' e q
    exact ⟨a, v, e1, ⟨o, hk _ _ (hc _ (mem_of_lookup e1)) eo, hd⟩, r.keep (fun _ _ e => e) K⟩
theorem IterAt.stop {A : Around} {E : Value → Shared → Prop} {α : Al} {s : Shared} {st : St} {I : Addr} {xs : List PyData} {Q : Option Value → Shared → Prop} (hh : A.handled = none) (T : IterAt s.heap α I xs xs.length) (hI : I ∉ α.all) (hI0 : W.h₀.get? I = none) (i : W.Inv s.heap α st)
    (hQ : ∀ s', same s s' → W.Inv s'.heap α st → KeepS s.heap α s'.heap α → (∀ a o, a ≠ I → s.heap.get? a = some o → s'.heap.get? a = some o) → Q none s') : wpAny (model W.prog W.w) A (pyNext (.ref I)) Q E s := by
  obtain ⟨oI, eI, qI⟩ := T.there
  have hq : ∀ o, s.heap.get? I = some o → ¬ isSeq o := fun o e => by rw [eI] at e; cases e; exact qI
  have fin : ∀ h' : Heap, Heap.ExtBut I s.heap h' → Q none { s with heap := h' } := fun h' hx => by
    obtain ⟨i2, K⟩ := Inv.lose i hI hI0 hq (fun a o ha e => hx a o ha e)
    exact hQ _ ⟨_, _, rfl⟩ i2 K fun a o ha e => hx a o ha e
  cases T with
  | @list ax vs _ _ n h1 h2 h3 h4 h5 => exact wpAny_pyNext_list_end hh h1 ⟨_, h2, rfl, _, rfl⟩ (by have := h5.length; simp only [Array.length_toList] at this; simp [this]) fin
  | @tuple ax vs _ _ n h1 h2 h3 h4 h5 => exact wpAny_pyNext_tuple_end hh h1 ⟨_, h2, rfl, _, rfl⟩ (by have := h5.length; simp only [Array.length_toList] at this; simp [this]) fin
  | @range a _ _ h1 h2 => exact wpAny_pyNext_range_end hh h1 (by omega) fin
theorem IterAt.self {A : Around} {E : Value → Shared → Prop} {α : Al} {s : Shared} {I : Addr} {xs : List PyData} {k : Nat} {Q : Value → Shared → Prop} (T : IterAt s.heap α I xs k) (hQ : Q (.ref I) s) : wpAny (model W.prog W.w) A (pyIter (.ref I)) Q E s := by
  cases T with
  | list h1 _ _ _ _ => exact wpAny_pyIter_listiter h1 hQ
  | tuple h1 _ _ _ _ => exact wpAny_pyIter_tupleiter h1 hQ
  | range h1 _ => exact wpAny_pyIter_rangeiter h1 hQ
theorem IterAt.go {A : Around} {E : Value → Shared → Prop} {α : Al} {s : Shared} {I : Addr} {xs : List PyData} {k : Nat} {e : Expr} {t : Tgt} {v : Value} {Q : Unit → Shared → Prop} (T : IterAt s.heap α I xs k) (ht : TgtIs sc e t) (hQ : Q () s) : wpAny (model W.prog W.w) A (letOwnedTupleGo e (.ref I) v) Q E s := by
  cases ht with
  | one _ _ _ => exact wpAny_pure hQ
  | two _ =>
    cases v with
    | ref a =>
      obtain ⟨o, eo, hc, hd⟩ : ∃ o, s.heap.get? I = some o ∧ (o.cls = .type "list_iterator" ∨ o.cls = .type "tuple_iterator" ∨ o.cls = .type "range_iterator") ∧ ∃ vs, o.data = .fields vs := by
        cases T with
        | list h1 _ _ _ _ => obtain ⟨o, e, c, d⟩ := h1; exact ⟨o, e, .inl c, _, d⟩
        | tuple h1 _ _ _ _ => obtain ⟨o, e, c, d⟩ := h1; exact ⟨o, e, .inr (.inl c), _, d⟩
        | range h1 _ => exact ⟨_, h1, .inr (.inr rfl), _, rfl⟩
      obtain ⟨vs, hd⟩ := hd
      unfold letOwnedTupleGo
      refine wpAny_bind (wpAny_load eo ?_)
      rcases hc with hc | hc | hc <;> rw [hc, hd] <;>
      · dsimp only
        rw [if_neg (by
          intro h
          have := (Bool.and_eq_true_iff.mp h).1
          revert this; decide)]
        exact wpAny_pure hQ
    | _ => exact wpAny_pure hQ
end Mine
end
section
namespace Mine
open PySem
variable {W : Wd} {n : Nat} {sc : Scope}
theorem Ext.transY {X Y : List Addr} {hb h h' : Heap} {αb α α' : Al} (E : Ext X hb αb h α) (G : Ext Y h α h' α') (hY : ∀ a ∈ Y, a ∈ X ∨ hb.get? a = none) : Ext X hb αb h' α' := by
  refine ⟨?_, fun a o ha hx e => G.keep a o (E.off ha e) (fun hy => (hY a hy).elim hx fun z => by rw [z] at e; cases e) (E.keep a o ha hx e), fun a o e => let ⟨o', e'⟩ := E.dom a o e; G.dom a o' e'⟩
  obtain ⟨β, rfl, hβ⟩ := E.app
  obtain ⟨γ, rfl, hg⟩ := G.app
  refine ⟨β ++ γ, by simp, fun b m => ?_⟩
  rcases List.mem_append.mp m with m | m
  · exact hβ b m
  · cases q : hb.get? b with
    | none => rfl
    | some o => obtain ⟨o', e'⟩ := E.dom b o q; rw [hg b m] at e'; cases e'
theorem Ext.adj {X : List Addr} {h h' : Heap} {α α' : Al} (E : Ext X h α h' α') (ex : List Addr) : Ext X h ⟨α.hs, ex⟩ h' ⟨α'.hs, ex⟩ := by
  obtain ⟨β, rfl, hb⟩ := E.app
  exact ⟨⟨β, rfl, hb⟩, fun a o ha hx e => E.keep a o ha hx e, E.dom⟩
section
variable {P : Program × World} {C : Addr} {h₀ h h' : Heap} {α : Al} {st : St}
theorem Inv.exclude (I : Inv P C h₀ h α st) {D : Addr} (hD : h.get? D = none) (hk : ∀ a o, h.get? a = some o → h'.get? a = some o) (hD' : ∃ o, h'.get? D = some o) :
    Inv P C h₀ h' ⟨α.hs, D :: α.ex⟩ st ∧ KeepS h α h' ⟨α.hs, D :: α.ex⟩ := by
  have K : KeepS h α h' ⟨α.hs, D :: α.ex⟩ := ⟨fun a o _ _ e => hk a o e, fun a o ha _ e m => by
    rcases List.mem_append.mp m with m | m
    · exact ha (List.mem_append_left _ m)
    · rcases List.mem_cons.mp m with rfl | m
      · rw [hD] at e; cases e
      · exact ha (List.mem_append_right _ m)⟩
  refine ⟨⟨fun a o e => hk a o (I.base a o e), I.hi, I.nodup, I.len, fun a ha => ?_, fun i a o e1 e2 => ObjOK.keep (α := α) (α' := ⟨α.hs, D :: α.ex⟩) (fun _ _ e => e) K (fun ob => hk a ob) (I.objs i a o e1 e2)⟩, K⟩
  rcases List.mem_cons.mp ha with rfl | ha
  · exact hD'
  · obtain ⟨o, e⟩ := I.exs a ha; exact ⟨o, hk a o e⟩
theorem Inv.include {hs ex : List Addr} {D : Addr} (I : Inv P C h₀ h ⟨hs, D :: ex⟩ st) : Inv P C h₀ h ⟨hs, ex⟩ st ∧ KeepS h ⟨hs, D :: ex⟩ h ⟨hs, ex⟩ := by
  have K : KeepS h ⟨hs, D :: ex⟩ h ⟨hs, ex⟩ := ⟨fun a o _ _ e => e, fun a o ha _ e m => by
    rcases List.mem_append.mp m with m | m
    · exact ha (List.mem_append_left _ m)
    · exact ha (List.mem_append_right _ (List.mem_cons_of_mem _ m))⟩
  exact ⟨⟨I.base, I.hi, I.nodup, I.len, fun a ha => I.exs a (List.mem_cons_of_mem _ ha), fun i a o e1 e2 => ObjOK.keep (α := ⟨hs, D :: ex⟩) (α' := ⟨hs, ex⟩) (fun _ _ e => e) K (fun ob e => e) (I.objs i a o e1 e2)⟩, K⟩
theorem Inv.keepD (I : Inv P C h₀ h α st) {D : Addr} (hD : D ∈ α.ex) (hD' : D ∉ α.hs) (hD0 : h₀.get? D = none) (hk : ∀ a o, a ≠ D → h.get? a = some o → h'.get? a = some o) (hg : ∃ o, h'.get? D = some o) :
    Inv P C h₀ h' α st ∧ KeepS h α h' α ∧ Ext [D] h α h' α := by
  have hd : ∀ a o, h.get? a = some o → ∃ o', h'.get? a = some o' := fun a o e => by
    by_cases ha : a = D
    · subst ha; exact hg
    · exact ⟨o, hk a o ha e⟩
  have K : KeepS h α h' α := ⟨fun a o ha _ e => hk a o (fun z => ha (List.mem_append_right _ (z ▸ hD))) e, fun _ _ ha _ _ => ha⟩
  refine ⟨⟨fun a o e => hk a o (fun z => by rw [z, hD0] at e; cases e) (I.base a o e), I.hi, I.nodup, I.len, fun a ha => let ⟨o, e⟩ := I.exs a ha; hd a o e, fun i a o e1 e2 => (I.objs i a o e1 e2).keep (fun _ _ e => e) K fun ob => hk a ob fun z => hD' (z ▸ List.mem_of_getElem? e1)⟩, K, ⟨⟨[], by simp, by simp⟩, fun a o _ hx e => hk a o (by simpa using hx) e, hd⟩⟩
end
theorem FrOK.adj {h₀ h h' : Heap} {α α' : Al} {env : Env} {vs : Vars} (F : FrOK h₀ h α env vs) (hh : α'.hs = α.hs) (K : KeepS h α h' α') (hk : ∀ a ∈ frX env, ∀ o, h.get? a = some o → h'.get? a = some o) : FrOK h₀ h' α' env vs := by
  obtain ⟨m, hn, hv⟩ := F.loc
  have pre : Pre α α' := fun i a e => by rw [hh]; exact e
  refine ⟨F.kind, F.glb, F.blt, F.L0, hh ▸ F.Lα, ⟨m, hn.at' fun o e => hk _ List.mem_cons_self o e, fun k pv hk e q => ?_⟩, fun p hp => ?_, F.apart, F.chas, fun k pv hk' e q => ?_⟩
  · obtain ⟨v, ev, r⟩ := hv k pv hk e q
    exact ⟨v, ev, r.keep pre K⟩
  · obtain ⟨c0, c1, c2, v, o, eo, hd⟩ := F.cel p hp
    exact ⟨c0, hh ▸ c1, c2, v, o, hk _ (List.mem_cons_of_mem _ (List.mem_map.mpr ⟨p, hp, rfl⟩)) _ eo, hd⟩
  · obtain ⟨a, v, e1, ⟨o, eo, hd⟩, r⟩ := F.cval k pv hk' e q
    exact ⟨a, v, e1, ⟨o, hk _ (List.mem_cons_of_mem _ (List.mem_map.mpr ⟨_, mem_of_lookup e1, rfl⟩)) _ eo, hd⟩, r.keep pre K⟩
noncomputable def ISim (W : Wd) (n : Nat) (sc : Scope) (e : Expr) (f : PI) : Prop :=
  ∀ (A : Around) (E : Value → Shared → Prop) (env : Env) (α : Al) (s : Shared) (vs : Vars) (st : St) (xs : List PyData) (st' : St) (Q : Value → Shared → Prop),
    Room A n → env.scope = sc → FrOK W.h₀ s.heap α env vs → W.Inv s.heap α st → f vs st = some (xs, st') →
    (∀ s' α' I, same s s' → Ext [] s.heap α s'.heap α' → W.Inv s'.heap α' st' → IterAt s'.heap α' I xs 0 → s.heap.get? I = none → I ∉ α'.all → xs.length ≤ 1000000 → Q (.ref I) s') → wpAny (model W.prog W.w) A (eval e env) (fun x s1 => wpAny (model W.prog W.w) A (pyIter x) Q E s1) E s
theorem Ext.new0 {X : List Addr} {h h' : Heap} {α α' : Al} (E : Ext X h α h' α') {a : Addr} (e : h'.get? a = none) : h.get? a = none := by
  cases q : h.get? a with
  | none => rfl
  | some o => obtain ⟨o', e'⟩ := E.dom a o q; rw [e] at e'; cases e'
theorem Inv.none0 {P : Program × World} {C : Addr} {h₀ h : Heap} {α : Al} {st : St} (I : Inv P C h₀ h α st) {a : Addr} (e : h.get? a = none) : h₀.get? a = none := by
  cases q : h₀.get? a with
  | none => rfl
  | some o => rw [I.base _ _ q] at e; cases e
theorem ISim.val {e : Expr} {f : PE} (h : ESim W n sc e f) : ISim W n sc e (iVal f) := by
  intro A E env α s vs st xs st' Q room hs hf hi he hQ
  obtain ⟨⟨p1, p2⟩, e1, he⟩ := bind_eq he
  refine h A E env α s vs st p1 p2 _ room hs hf hi e1 fun s1 α1 pv sm1 x1 i1 r1 => ?_
  cases p1 with
  | ref i => cases he
  | d x =>
    cases x with
    | list ys =>
      dsimp only at he
      split at he
      · rename_i hz
        cases he
        cases r1 with
        | @list a us k _ ho hoff rs =>
          refine wpAny_pyIter_list ⟨_, ho, rfl, _, rfl⟩ ?_
          have hfr := fresh_none s1.heap
          have hne : a ≠ s1.heap.objs.size := fun z => by rw [z, hfr] at ho; cases ho
          obtain ⟨i2, x2⟩ := i1.grow (h' := s1.heap.push { cls := .type "list_iterator", data := .fields #[.ref a, .int 0 0] }) fun b o e => Heap.get?_push_of_some _ e
          exact hQ _ α1 _ (sm1.trans ⟨_, _, rfl⟩) (x1.trans x2) i2 (.list ⟨_, Heap.get?_push_size _ rfl, rfl, rfl⟩ (Heap.get?_push_of_some _ ho) hoff hne (Reps.keep x2.keep0 rs)) (x1.new0 hfr) (Mine.Inv.off i1 hfr) (szOk_iff hz)
      · cases he
    | tuple ys =>
      dsimp only at he
      split at he
      · rename_i hz
        cases he
        cases r1 with
        | @tuple a us k _ ho hoff rs =>
          refine wpAny_pyIter_tuple ⟨_, ho, rfl, _, rfl⟩ ?_
          have hfr := fresh_none s1.heap
          have hne : a ≠ s1.heap.objs.size := fun z => by rw [z, hfr] at ho; cases ho
          obtain ⟨i2, x2⟩ := i1.grow (h' := s1.heap.push { cls := .type "tuple_iterator", data := .fields #[.ref a, .int 0 0] }) fun b o e => Heap.get?_push_of_some _ e
          exact hQ _ α1 _ (sm1.trans ⟨_, _, rfl⟩) (x1.trans x2) i2 (.tuple ⟨_, Heap.get?_push_size _ rfl, rfl, rfl⟩ (Heap.get?_push_of_some _ ho) hoff hne (Reps.keep x2.keep0 rs)) (x1.new0 hfr) (Mine.Inv.off i1 hfr) (szOk_iff hz)
      · cases he
    | _ => cases he
theorem range_iter {A : Around} {E : Value → Shared → Prop} {α : Al} {s : Shared} {st : St} {a b : Int} {t u v : Tok} {r : Addr} {Q : Value → Shared → Prop} (i : W.Inv s.heap α st) (hr : IsRange s.heap r a b 1 t u v) (ha : small a = true) (hb : small b = true) (hl : b - a ≤ 1000)
    (hQ : ∀ s' I, same s s' → Ext [] s.heap α s'.heap α → W.Inv s'.heap α st → IterAt s'.heap α I (rangeL a (b - a).toNat) 0 → s.heap.get? I = none → I ∉ α.all → (rangeL a (b - a).toNat).length ≤ 1000000 → Q (.ref I) s') :
    wpAny (model W.prog W.w) A (pyIter (.ref r)) Q E s := by
  unfold small at ha hb
  simp only [Bool.and_eq_true, decide_eq_true_eq] at ha hb
  refine wpAny_pyIter_range hr (small_one (by omega) (by omega) (by omega) (by omega)) ?_
  have hfr := fresh_none s.heap
  obtain ⟨i2, x2⟩ := i.grow (h' := s.heap.push { cls := .type "range_iterator", data := .fields #[rawInt a, rawInt (Builtin.Range.rangeSize a b 1), rawInt 1] }) fun b o e => Heap.get?_push_of_some _ e
  refine hQ _ _ ⟨_, _, rfl⟩ x2 i2 (.range (a := a) ?_ (by rw [rangeL_length])) hfr (Mine.Inv.off i hfr) (by rw [rangeL_length]; omega)
  have e1 : a + ((0 : Nat) : Int) * 1 = a := by omega
  have e2 : (((rangeL a (b - a).toNat).length : Nat) : Int) - ((0 : Nat) : Int) = Builtin.Range.rangeSize a b 1 := by
    rw [rangeL_length, rangeSize_one]
    split <;> omega
  rw [e1, e2]
  exact Heap.get?_push_size _ rfl
theorem range1_dat {f : PE} {vs : Vars} {st st' : St} {xs : List PyData} (h : iRange1 f vs st = some (xs, st')) : ∃ k, f vs st = some (.d (.int k), st') ∧ small k = true ∧ k ≤ 1000 ∧ xs = rangeL 0 k.toNat := by
  obtain ⟨⟨p1, p2⟩, e1, he⟩ := bind_eq h
  cases p1 with
  | ref i => cases he
  | d x =>
    cases x with
    | int k =>
      dsimp only at he
      split at he
      · rename_i hz
        cases he
        obtain ⟨z1, z2⟩ := Bool.and_eq_true_iff.mp hz
        exact ⟨k, e1, z1, of_decide_eq_true z2, rfl⟩
      · cases he
    | _ => cases he
theorem ISim.range1 {p pos : Pos} {e : Expr} {f : PE} (ok : W.Ok) (hx : sc.names.lookup ("range" : Str) = some .globalImplicit) (hg : GName W ("range" : Str) (.type "range")) (h : ESim W n sc e f) (hst : notStar e = true) :
    ISim W n sc (.Call (.Name "range" p) [e] [] pos) (iRange1 f) := by
  intro A E env α s vs st xs st' Q room hs hf hi he hQ
  obtain ⟨k, e1, z1, z2, rfl⟩ := range1_dat he
  rw [eval_Call_Name]
  refine wpAny_bind (name_glob ok hs hf hi hx hg rfl ?_)
  refine callWith_sim (.cons h .nil) (by simp [hst]) (keepOk_type _) room hs hf hi (eSeq_one e1) fun s1 α1 pvs sm1 x1 i1 r1 => ?_
  cases r1 with
  | cons ra rn =>
    cases rn
    cases ra
    refine call_range_1 ?_
    obtain ⟨i2, x2⟩ := i1.grow (h' := s1.heap.push { cls := .type "range", data := .fields #[.int 0 s1.toks, .int k _, .int 1 (s1.toks + 1)] }) fun b o e => Heap.get?_push_of_some _ e
    refine range_iter (a := 0) (b := k) (s := { s1 with heap := _, toks := _ }) i2 (IsRange.new _ _ _ _ _ _ _) (by decide) z1 (by omega) fun s2 I sm2 x3 i3 it hI hIα hl => ?_
    rw [show (k - 0).toNat = k.toNat by omega] at it hl
    exact hQ s2 α1 I (sm1.trans (same.trans ⟨_, _, rfl⟩ sm2)) ((x1.trans x2).trans x3) i3 it ((x1.trans x2).new0 hI) hIα hl
theorem ISim.range2 {p pos : Pos} {e g : Expr} {f q : PE} (ok : W.Ok) (hx : sc.names.lookup ("range" : Str) = some .globalImplicit) (hg : GName W ("range" : Str) (.type "range")) (h : ESim W n sc e f) (h' : ESim W n sc g q) (hst : [e, g].all notStar = true) :
    ISim W n sc (.Call (.Name "range" p) [e, g] [] pos) (iRange2 f q) := by
  intro A E env α s vs st xs st' Q room hs hf hi he hQ
  obtain ⟨⟨p1, p2⟩, e1, he⟩ := bind_eq he
  obtain ⟨⟨q1, q2⟩, e2, he⟩ := bind_eq he
  rw [eval_Call_Name]
  refine wpAny_bind (name_glob ok hs hf hi hx hg rfl ?_)
  refine callWith_sim (.cons h (.cons h' .nil)) hst (keepOk_type _) room hs hf hi (eSeq_two e1 e2) fun s1 α1 pvs sm1 x1 i1 r1 => ?_
  cases r1 with
  | cons ra rn =>
    cases rn with
    | cons rb rn =>
      cases rn
      cases p1 with
      | ref i => cases he
      | d x =>
        cases x with
        | int a =>
          cases q1 with
          | ref i => cases he
          | d y =>
            cases y with
            | int b =>
              dsimp only at he
              split at he
              · rename_i hz
                cases he
                obtain ⟨z12, z3⟩ := Bool.and_eq_true_iff.mp hz
                obtain ⟨z1, z2⟩ := Bool.and_eq_true_iff.mp z12
                cases ra
                cases rb
                refine call_range_2 ?_
                obtain ⟨i2, x2⟩ := i1.grow (h' := s1.heap.push { cls := .type "range", data := .fields #[.int a _, .int b _, .int 1 s1.toks] }) fun b o e => Heap.get?_push_of_some _ e
                refine range_iter (a := a) (b := b) (s := { s1 with heap := _, toks := _ }) i2 (IsRange.new _ _ _ _ _ _ _) z1 z2 (of_decide_eq_true z3) fun s2 I sm2 x3 i3 it hI hIα hl => ?_
                exact hQ s2 α1 I (sm1.trans (same.trans ⟨_, _, rfl⟩ sm2)) ((x1.trans x2).trans x3) i3 it ((x1.trans x2).new0 hI) hIα hl
              · cases he
            | _ => cases he
        | _ => cases he
end Mine
end
section
namespace Mine
open PySem
variable {W : Wd} {n : Nat} {sc : Scope}
noncomputable def turnG (p : Pos) (target : Expr) (ifs : List Expr) (B : Sem Unit) (c : Code) (it : Value) (env : Env) : Sem Fin := do
  standAt p
  match ← pyNext it with
  | none => pure (.done .next)
  | some v =>
    letOwnedTupleGo target it v
    assign target env v
    let mut ok := true
    for c in ifs do
      if ok then ok ← isTrue c env (eval c env)
    if ok then B
    again c
theorem turn_one (elt target iter : Expr) (ifs : List Expr) (scope : Scope) (pos : Pos) (it acc : Value) (env : Env) :
    compTurn (.ListComp elt [⟨target, iter, ifs, 0⟩] scope pos) 0 it acc env = turnG iter.pos target ifs (do let _ ← call (.builtin "list.append") [acc, ← eval elt env]) (.compLoop (.ListComp elt [⟨target, iter, ifs, 0⟩] scope pos) 0 it acc env) it env := by rfl
theorem turn_two0 (elt target iter target2 iter2 : Expr) (ifs ifs2 : List Expr) (scope : Scope) (pos : Pos) (it acc : Value) (env : Env) :
    compTurn (.ListComp elt [⟨target, iter, ifs, 0⟩, ⟨target2, iter2, ifs2, 0⟩] scope pos) 0 it acc env = turnG iter.pos target ifs (do
        let x ← eval iter2 env
        standAt iter2.pos
        let x ← foldedSetIterable iter2 env x
        let _ ← runOwn (.compStart (.ListComp elt [⟨target, iter, ifs, 0⟩, ⟨target2, iter2, ifs2, 0⟩] scope pos) 1 (← holding [x] (pyIter x)) acc env) env)
      (.compLoop (.ListComp elt [⟨target, iter, ifs, 0⟩, ⟨target2, iter2, ifs2, 0⟩] scope pos) 0 it acc env) it env := by
  unfold turnG
  simp only [bind_assoc, pure_bind]
  rfl
theorem turn_two1 (elt target iter target2 iter2 : Expr) (ifs ifs2 : List Expr) (scope : Scope) (pos : Pos) (it acc : Value) (env : Env) :
    compTurn (.ListComp elt [⟨target, iter, ifs, 0⟩, ⟨target2, iter2, ifs2, 0⟩] scope pos) 1 it acc env = turnG iter2.pos target2 ifs2 (do let _ ← call (.builtin "list.append") [acc, ← eval elt env])
      (.compLoop (.ListComp elt [⟨target, iter, ifs, 0⟩, ⟨target2, iter2, ifs2, 0⟩] scope pos) 1 it acc env) it env := by rfl
inductive TSims (W : Wd) (n : Nat) (sc : Scope) : List Expr → List PT → Prop
  | nil : TSims W n sc [] []
  | cons {e f es fs} : TSim W n sc e f → TSims W n sc es fs → TSims W n sc (e :: es) (f :: fs)
theorem tests_false {M : Model} {A : Around} {E : Value → Shared → Prop} {env : Env} {s : Shared} {Q : Bool → Shared → Prop} (h : Q false s) : ∀ ifs : List Expr,
    wpAny M A (forIn ifs false fun c r => if r = true then do let ok ← isTrue c env (eval c env); pure (ForInStep.yield ok) else pure (ForInStep.yield r)) Q E s
  | [] => wpAny_pure h
  | c :: r => by
    rw [List.forIn_cons]
    exact wpAny_bind (wpAny_pure (tests_false h r))
theorem tests_sim {ifs : List Expr} {fs : List PT} (h : TSims W n sc ifs fs) : ∀ {A : Around} {E : Value → Shared → Prop} {env : Env} {α : Al} {s : Shared} {vs : Vars} {st : St} {b : Bool} {st' : St} {Q : Bool → Shared → Prop},
    Room A n → env.scope = sc → FrOK W.h₀ s.heap α env vs → W.Inv s.heap α st → tIfs fs vs st = some (b, st') →
    (∀ s' α', same s s' → Ext [] s.heap α s'.heap α' → W.Inv s'.heap α' st' → Q b s') →
    wpAny (model W.prog W.w) A (forIn ifs true fun c r => if r = true then do let ok ← isTrue c env (eval c env); pure (ForInStep.yield ok) else pure (ForInStep.yield r)) Q E s := by
  induction h with
  | nil =>
    intro A E env α s vs st b st' Q room hs hf hi he hQ
    cases he
    exact wpAny_pure (hQ s α (.refl s) (.refl _ _ _) hi)
  | @cons e f es fs h1 _ ih =>
    intro A E env α s vs st b st' Q room hs hf hi he hQ
    obtain ⟨r, e1, he⟩ := bind_eq he
    rw [List.forIn_cons]
    simp only [if_true]
    refine wpAny_bind (wpAny_bind (h1 A E env α s vs st r.1 r.2 _ room hs hf hi e1 fun s1 α1 sm1 x1 i1 => wpAny_pure ?_))
    cases hr : r.1 with
    | true =>
      rw [hr] at he
      exact ih room hs (hf.step x1) i1 he fun s2 α2 sm2 x2 i2 => hQ s2 α2 (sm1.trans sm2) (x1.trans x2) i2
    | false =>
      rw [hr] at he
      cases he
      exact tests_false (hQ s1 α1 sm1 x1 i1) es
structure CompSt (W : Wd) (cenv : Env) (D : Addr) (s : Shared) (α : Al) (st : St) (vs : Vars) (acc : List PyData) : Prop where
  inv : W.Inv s.heap α st
  fr : FrOK W.h₀ s.heap α cenv vs
  ex : D ∈ α.ex
  hs : D ∉ α.hs
  D0 : W.h₀.get? D = none
  DX : D ∉ frX cenv
  lst : ∃ us k, s.heap.get? D = some { cls := .type "list", data := .seq us k } ∧ Reps s.heap α us.toList acc
theorem CompSt.step {cenv : Env} {D : Addr} {s s' : Shared} {α α' : Al} {st st' : St} {vs : Vars} {acc : List PyData} (c : CompSt W cenv D s α st vs acc) (x : Ext [] s.heap α s'.heap α') (i : W.Inv s'.heap α' st') : CompSt W cenv D s' α' st' vs acc := by
  obtain ⟨us, k, e, r⟩ := c.lst
  exact ⟨i, c.fr.step x, x.ex ▸ c.ex, x.off c.hs e, c.D0, c.DX, us, k, x.keep _ _ c.hs (by simp) e, Reps.keep x.keep0 r⟩
theorem CompSt.less {cenv : Env} {D : Addr} {s : Shared} {α : Al} {st : St} {vs vs' : Vars} {acc : List PyData} (c : CompSt W cenv D s α st vs acc) (h : ∀ k pv, vs' k = some pv → vs k = some pv) : CompSt W cenv D s α st vs' acc :=
  ⟨c.inv, c.fr.less h, c.ex, c.hs, c.D0, c.DX, c.lst⟩
theorem CompSt.add {A : Around} {E : Value → Shared → Prop} {cenv : Env} {D : Addr} {s : Shared} {α : Al} {st : St} {vs : Vars} {acc : List PyData} {v : Value} {y : PyData} {Q : Value → Shared → Prop} (c : CompSt W cenv D s α st vs acc) (r : Rep s.heap α v y) (hl : acc.length ≤ 1000000)
    (hQ : ∀ s' u, same s s' → Ext [D] s.heap α s'.heap α → KeepS s.heap α s'.heap α → CompSt W cenv D s' α st vs (acc ++ [y]) → Q u s') : wpAny (model W.prog W.w) A (call (.builtin "list.append") [.ref D, v]) Q E s := by
  obtain ⟨us, k, e, rs⟩ := c.lst
  have hlen := rs.length
  simp only [Array.length_toList] at hlen
  refine wpAny_list_append_plain ⟨_, e⟩ (fun h' hp hs' => ?_) (sz_line (by omega))
  obtain ⟨k2, e2⟩ := hp
  obtain ⟨i2, K, x2⟩ := c.inv.keepD (h' := h') c.ex c.hs c.D0 (fun a o ha e => hs'.extBut a o ha e) ⟨_, e2⟩
  refine hQ _ _ ⟨_, _, rfl⟩ x2 K ⟨i2, c.fr.lose c.DX (fun a o ha e => hs'.extBut a o ha e) K, c.ex, c.hs, c.D0, c.DX, _, _, e2, ?_⟩
  rw [Array.toList_push]
  exact (Reps.keep K rs).append (.cons (Rep.keep K r) .nil)
noncomputable def BSim (W : Wd) (n : Nat) (cenv : Env) (D : Addr) (B : Sem Unit) (vs0 : List Nat) (f : PI) : Prop :=
  ∀ (A : Around) (E : Value → Shared → Prop) (s : Shared) (α : Al) (st : St) (vs : Vars) (acc ys : List PyData) (st' : St) (Q : Unit → Shared → Prop), Room A n → (∀ k ∈ vs0, vs k = none) → CompSt W cenv D s α st vs acc → f vs st = some (ys, st') → acc.length + ys.length ≤ 1000000 →
    (∀ s' α', same s s' → Ext [D, cenv.locals] s.heap α s'.heap α' → KeepS s.heap α s'.heap α' → CompSt W cenv D s' α' st' vs (acc ++ ys) → Q () s') → wpAny (model W.prog W.w) A B Q E s
noncomputable def eltF (g : PE) : PI := fun vs st => (g vs st).bind fun q => q.1.data.map fun y => ([y], q.2)
theorem BSim.elt {cenv : Env} {D : Addr} {elt : Expr} {g : PE} {vs0 : List Nat} (h : ESim W n sc elt g) (hsc : cenv.scope = sc) : BSim W n cenv D (do let _ ← call (.builtin "list.append") [.ref D, ← eval elt cenv]) vs0 (eltF g) := by
  intro A E s α st vs acc ys st' Q room _ c he hl hQ
  obtain ⟨⟨q1, q2⟩, e1, he⟩ := bind_eq he
  obtain ⟨y, e2, he⟩ := map_eq he
  cases he
  cases q1 with
  | ref i => cases e2
  | d z =>
    cases e2
    refine wpAny_bind (h A E cenv α s vs st _ _ _ room hsc c.fr c.inv e1 fun s1 α1 pv sm1 x1 i1 r1 => ?_)
    refine wpAny_bind ((c.step x1 i1).add r1 (by simp at hl; omega) fun s2 u sm2 x2 K2 c2 => wpAny_pure ?_)
    exact hQ s2 α1 (sm1.trans sm2) ((x1.weaken (by simp)).trans (x2.weaken fun a ha => .inl (by rw [List.mem_singleton.mp ha]; simp))) (x1.keep0.trans K2) c2
noncomputable def compG (t : Tgt) (ifs : List PT) (f : PI) : List PyData → PI
  | [], _, st => some ([], st)
  | x :: xs, vs, st => (t.put vs x).bind fun vs1 => (tIfs ifs vs1 st).bind fun r =>
      if r.1 then (f vs1 r.2).bind fun q => (compG t ifs f xs vs q.2).map fun u => (q.1 ++ u.1, u.2)
      else compG t ifs f xs vs r.2
theorem compL_G (t : Tgt) (ifs : List PT) (g : PE) : ∀ (xs : List PyData) (vs : Vars) (st : St), compL t ifs g xs vs st = compG t ifs (eltF g) xs vs st
  | [], _, _ => rfl
  | x :: xs, vs, st => by
    unfold compL compG
    congr 1; funext vs1
    congr 1; funext r
    split
    · unfold eltF
      cases hg : g vs1 r.2 with
      | none => rfl
      | some q =>
        simp only [Option.bind_some]
        cases hd : q.1.data with
        | none => rfl
        | some y => simp only [Option.bind_some, Option.map_some, compL_G t ifs g xs]; rfl
    · exact compL_G t ifs g xs vs r.2
theorem put_ext {t : Tgt} {vs vs' : Vars} {x : PyData} (h : t.put vs x = some vs') (hoff : ∀ k ∈ t.ks, vs k = none) : ∀ k pv, vs k = some pv → vs' k = some pv := by
  intro k pv e
  cases t with
  | one j =>
    cases h
    have : k ≠ j := fun z => by subst z; rw [hoff k (by simp [Tgt.ks])] at e; cases e
    simp [upd, this, e]
  | two j l =>
    obtain ⟨a, b, rfl, h2⟩ := put_two h
    cases h2
    have h1 : k ≠ j := fun z => by subst z; rw [hoff k (by simp [Tgt.ks])] at e; cases e
    have h2 : k ≠ l := fun z => by subst z; rw [hoff k (by simp [Tgt.ks])] at e; cases e
    simp [upd, h1, h2, e]
theorem put_none {t : Tgt} {vs vs' : Vars} {x : PyData} (h : t.put vs x = some vs') : ∀ k, k ∉ t.ks → vs k = none → vs' k = none := by
  intro k hk e
  cases t with
  | one j =>
    cases h
    have : k ≠ j := fun z => hk (by simp [Tgt.ks, z])
    simp [upd, this, e]
  | two j l =>
    obtain ⟨a, b, rfl, h2⟩ := put_two h
    cases h2
    have h1 : k ≠ j := fun z => hk (by simp [Tgt.ks, z])
    have h2 : k ≠ l := fun z => hk (by simp [Tgt.ks, z])
    simp [upd, h1, h2, e]
end Mine
end
section
namespace Mine
open PySem
variable {W : Wd} {n : Nat} {sc : Scope}
theorem nameKs {t : Tgt} {target : Expr} (ht : TgtIs sc target t) : ∃ es, NamesAre sc es t.ks ∧ (∀ x p, target = .Name x p → es = [target]) := by
  cases ht with
  | @one x p k h1 h2 h3 => exact ⟨[.Name x p], .cons h1 h2 h3 .nil, fun _ _ _ => rfl⟩
  | two h => exact ⟨_, h, fun _ _ z => by cases z⟩
theorem assignNames_loc {A : Around} {E : Value → Shared → Prop} {env : Env} {es : List Expr} {ks : List Nat} (h : NamesAre sc es ks) (hs : env.scope = sc) (hl : ∀ k ∈ ks, sc.names.lookup (nm k) = some .local) : ∀ {α : Al} {s : Shared} {vs vs' : Vars} {st : St} {vals : List Value} {pvs : List PV} {Q : Unit → Shared → Prop}, FrOK W.h₀ s.heap α env vs → W.Inv s.heap α st →
    RepVs s.heap α vals pvs → updAll vs ks pvs = some vs' → (∀ s', same s s' → FrOK W.h₀ s'.heap α env vs' → W.Inv s'.heap α st → Ext [env.locals] s.heap α s'.heap α → KeepS s.heap α s'.heap α → Q () s') →
    wpAny (model W.prog W.w) A (assignInOrder ((assignEach es env).map (·.2)) vals) Q E s := by
  induction h with
  | nil =>
    intro α s vs vs' st vals pvs Q F I r e hQ
    cases r with
    | cons _ _ => cases e
    | nil =>
      cases e
      exact wpAny_pure (hQ s (.refl s) F I (.refl _ _ _) (.refl _ _))
  | @cons x p k es ks hx hk hl' _ ih =>
    intro α s vs vs' st vals pvs Q F I r e hQ
    cases r with
    | nil => cases e
    | @cons v pv vals pvs r q =>
      subst hx hs
      show wpAny _ A (do holding vals (assign (.Name (nm k) p) env v); assignInOrder ((assignEach es env).map (·.2)) vals) _ _ _
      refine wpAny_bind (wpAny_holding (wpAny_assign_Name (F.store I hk hl' r fun s1 sm1 f1 i1 x1 K1 => ?_)))
      rw [if_pos (show env.kindOf (nm k) = some .local from hl k List.mem_cons_self)] at x1
      exact ih (fun j hj => hl j (List.mem_cons_of_mem _ hj)) f1 i1 (q.keep x1.pre K1) e fun s2 sm2 f2 i2 x2 K2 => hQ s2 (sm1.trans sm2) f2 i2 (x1.trans x2) (K1.trans K2)
theorem assign_loc {A : Around} {E : Value → Shared → Prop} {env : Env} {α : Al} {s : Shared} {vs vs' : Vars} {st : St} {e : Expr} {t : Tgt} {v : Value} {x : PyData} {Q : Unit → Shared → Prop} (ht : TgtIs sc e t) (hl : ∀ k ∈ t.ks, sc.names.lookup (nm k) = some .local) (hh : A.handled = none) (hs : env.scope = sc) (F : FrOK W.h₀ s.heap α env vs) (I : W.Inv s.heap α st)
    (r : Rep s.heap α v x) (hp : t.put vs x = some vs') (hQ : ∀ s', same s s' → FrOK W.h₀ s'.heap α env vs' → W.Inv s'.heap α st → Ext [env.locals] s.heap α s'.heap α → KeepS s.heap α s'.heap α → Q () s') : wpAny (model W.prog W.w) A (assign e env v) Q E s := by
  cases ht with
  | @one x p k hx hk hl' =>
    subst hx hs
    cases hp
    refine wpAny_assign_Name (F.store I hk hl' (pv := .d _) r fun s' sm f i xx K => ?_)
    rw [if_pos (show env.kindOf (nm k) = some .local from hl k List.mem_cons_self)] at xx
    exact hQ s' sm f i xx K
  | @two e1 e2 rp kk k l hn =>
    obtain ⟨a, b, rfl, h2⟩ := put_two hp
    cases r with
    | @tuple ad items kn _ ho hoff rs =>
      obtain ⟨l1, l2⟩ := hn.each env
      have hlen := rs.length
      simp only [Array.length_toList] at hlen
      refine wpAny_assign_Tuple hh ⟨_, ho, rfl, _, rfl⟩ (by rw [l1, hn.length, hlen]; rfl) l2 fun h' he => ?_
      obtain ⟨i1, x1⟩ := I.grow (h' := h') fun b o e => he b o (Nat.ne_of_lt (Heap.lt_size e)) e
      refine assignNames_loc (s := { s with heap := h' }) hn hs hl (F.step x1) i1 ((rs.two).ext x1) h2 fun s2 sm2 f2 i2 x2 K2 => ?_
      exact hQ s2 (same.trans ⟨_, _, rfl⟩ sm2) f2 i2 ((x1.weaken (by simp)).trans x2) (x1.keep0.trans K2)
theorem FrOK.stepX {h₀ h h' : Heap} {α α' : Al} {env : Env} {vs : Vars} {X : List Addr} (F : FrOK h₀ h α env vs) (x : Ext X h α h' α') (K : KeepS h α h' α') (hX : ∀ a ∈ X, a ∉ frX env) : FrOK h₀ h' α' env vs := by
  obtain ⟨m, hn, hv⟩ := F.loc
  have hk : ∀ a ∈ frX env, ∀ o, h.get? a = some o → h'.get? a = some o := fun a ha o e => x.keep a o (F.offX a ha).1 (fun hx => hX a hx ha) e
  obtain ⟨oL, _, _, eL, _⟩ := id hn
  refine ⟨F.kind, F.glb, F.blt, F.L0, x.off F.Lα eL, ⟨m, hn.at' fun o e => hk _ List.mem_cons_self o e, fun k pv hk e q => ?_⟩, fun p hp => ?_, F.apart, F.chas, fun k pv hk' e q => ?_⟩
  · obtain ⟨v, ev, r⟩ := hv k pv hk e q
    exact ⟨v, ev, r.keep x.pre K⟩
  · obtain ⟨c0, c1, c2, v, o, eo, hd⟩ := F.cel p hp
    exact ⟨c0, x.off c1 eo, c2, v, o, hk _ (List.mem_cons_of_mem _ (List.mem_map.mpr ⟨p, hp, rfl⟩)) _ eo, hd⟩
  · obtain ⟨a, v, e1, ⟨o, eo, hd⟩, r⟩ := F.cval k pv hk' e q
    exact ⟨a, v, e1, ⟨o, hk _ (List.mem_cons_of_mem _ (List.mem_map.mpr ⟨_, mem_of_lookup e1, rfl⟩)) _ eo, hd⟩, r.keep x.pre K⟩
theorem comp_loop {elt target : Expr} {gens : List Comprehension} {scope : Scope} {pos p : Pos} {depth : Nat} {t : Tgt} {ifs : List Expr} {fs : List PT} {B : Sem Unit} {f : PI} {cenv : Env} {D I : Addr} {xs : List PyData} {A : Around} {R : Result → Shared → Prop} {vs : Vars} {hb : Heap} {αb : Al} {X : List Addr}
    (hturn : compTurn (.ListComp elt gens scope pos) depth (.ref I) (.ref D) cenv = turnG p target ifs B (.compLoop (.ListComp elt gens scope pos) depth (.ref I) (.ref D) cenv) (.ref I) cenv)
    (ht : TgtIs sc target t) (htl : ∀ k ∈ t.ks, sc.names.lookup (nm k) = some .local) (hifs : TSims W n sc ifs fs) {vs0 : List Nat} (hB : BSim W n cenv D B vs0 f) (hv0 : ∀ k ∈ vs0, k ∉ t.ks ∧ vs k = none) (hsc : cenv.scope = sc) (hI0 : W.h₀.get? I = none) (room : Room A n)
    (hoff : ∀ k ∈ t.ks, vs k = none) (hIX : I ∉ frX cenv) (hIb : hb.get? I = none) (hDX : D ∈ X ∨ hb.get? D = none) (hCX : cenv.locals ∈ X ∨ hb.get? cenv.locals = none) :
    ∀ (m k : Nat), m + k = xs.length → ∀ {s : Shared} {α : Al} {st : St} {acc ys : List PyData} {st' : St}, CompSt W cenv D s α st vs acc → IterAt s.heap α I xs k → I ∉ α.all → compG t fs f (xs.drop k) vs st = some (ys, st') → acc.length + ys.length ≤ 1000000 →
      Ext X hb αb s.heap α → KeepS hb αb s.heap α →
      (∀ s' α', same s s' → Ext X hb αb s'.heap α' → KeepS hb αb s'.heap α' → CompSt W cenv D s' α' st' vs (acc ++ ys) → R (.ok .next) s') →
      codeAny (model W.prog W.w) A (.compLoop (.ListComp elt gens scope pos) depth (.ref I) (.ref D) cenv) R s := by
  intro m
  induction m with
  | zero =>
    intro k hk s α st acc ys st' c T hIα he hl x0 K0 hR
    have hk' : k = xs.length := by omega
    subst hk'
    rw [List.drop_length] at he
    cases he
    refine codeAny_of_tree ?_
    show wpAny _ A ((compTurn (.ListComp elt gens scope pos) depth (.ref I) (.ref D) cenv).onRaise (fun x => do noteFrame x cenv; theTreesLotGoes x)) _ _ s
    refine wpAny_noted ?_
    rw [hturn]
    unfold turnG
    refine wpAny_bind (wpAny_standAt (wpAny_bind (T.stop room.hd hIα hI0 c.inv fun s1 sm1 i1 K1 hk1 => wpAny_pure ?_)))
    obtain ⟨us, kn, eD, rD⟩ := c.lst
    obtain ⟨oI, eI, qI⟩ := T.there
    have hDI : D ≠ I := fun z => by subst z; rw [eD] at eI; cases eI; exact qI ⟨_, _, rfl⟩
    exact hR s1 α sm1 (x0.lose hIb hk1) (K0.trans K1) ⟨i1, c.fr.lose hIX hk1 K1, c.ex, c.hs, c.D0, c.DX, us, kn, hk1 _ _ hDI eD, by rw [List.append_nil]; exact Reps.keep K1 rD⟩
  | succ m ih =>
    intro k hk s α st acc ys st' c T hIα he hl x0 K0 hR
    have hlt : k < xs.length := by omega
    rw [List.drop_eq_getElem_cons hlt] at he
    obtain ⟨vs1, e1, he⟩ := bind_eq he
    obtain ⟨⟨r1, r2⟩, e2, he⟩ := bind_eq he
    refine codeAny_of_tree ?_
    show wpAny _ A ((compTurn (.ListComp elt gens scope pos) depth (.ref I) (.ref D) cenv).onRaise (fun x => do noteFrame x cenv; theTreesLotGoes x)) _ _ s
    refine wpAny_noted ?_
    rw [hturn]
    unfold turnG
    obtain ⟨us, kn, eD, rD⟩ := c.lst
    obtain ⟨oI, eI, qI⟩ := T.there
    have hDI : D ≠ I := fun z => by subst z; rw [eD] at eI; cases eI; exact qI ⟨_, _, rfl⟩
    have hIhs := Al.off hIα
    have hCI : cenv.locals ≠ I := fun z => hIX (z ▸ List.mem_cons_self)
    refine wpAny_bind (wpAny_standAt (wpAny_bind (T.next hIhs hI0 c.inv (List.getElem?_eq_getElem hlt) fun s1 v sm1 i1 x1 K1 T1 rv => ?_)))
    refine wpAny_bind (T1.go ht ?_)
    have f1 : FrOK W.h₀ s1.heap α cenv vs := c.fr.stepX x1 K1 (fun a ha => by rw [List.mem_singleton.mp ha]; exact hIX)
    refine wpAny_bind (assign_loc ht htl room.hd hsc f1 i1 rv e1 fun s2 sm2 f2 i2 x2 K2 => ?_)
    refine wpAny_bind (tests_sim hifs room hsc f2 i2 e2 fun s3 α3 sm3 x3 i3 => ?_)
    have f3 := f2.step x3
    have hDC : D ≠ cenv.locals := fun z => c.DX (z ▸ List.mem_cons_self)
    have eD3 : s3.heap.get? D = some { cls := .type "list", data := .seq us kn } := x3.keep _ _ c.hs (by simp) (x2.keep _ _ c.hs (by simpa using hDC) (x1.keep _ _ c.hs (by simpa using hDI) eD))
    have K13 : KeepS s.heap α s3.heap α3 := (K1.trans K2).trans x3.keep0
    have x03 : Ext X hb αb s3.heap α3 := ((x0.transY x1 (by simpa using Or.inr hIb)).transY x2 (by simpa using hCX)).transY x3 (by simp)
    have T3 : IterAt s3.heap α3 I xs (k + 1) := (T1.keep K2 (fun o e => x2.keep _ _ hIhs (by simpa using hCI.symm) e)).keep x3.keep0 (fun o e => x3.keep _ _ hIhs (by simp) e)
    obtain ⟨o1, eI1, _⟩ := T1.there
    obtain ⟨o2, eI2⟩ := x2.dom _ _ eI1
    have hIα3 : I ∉ α3.all := x3.offAll hIα eI2
    have c3 : CompSt W cenv D s3 α3 r2 vs1 acc := ⟨i3, f3, x3.ex ▸ c.ex, x3.off c.hs (x2.keep _ _ c.hs (by simpa using hDC) (x1.keep _ _ c.hs (by simpa using hDI) eD)), c.D0, c.DX, us, kn, eD3, Reps.keep K13 rD⟩
    have sm13 := (sm1.trans sm2).trans sm3
    cases r1 with
    | false =>
      dsimp only at he
      rw [if_neg (by decide)] at he
      refine wpAny_pure ⟨rfl, ?_⟩
      exact ih (k + 1) (by omega) (c3.less (put_ext e1 hoff)) T3 hIα3 he hl x03 (K0.trans K13) fun s' α' sm x K c' => hR s' α' (sm13.trans sm) x K c'
    | true =>
      dsimp only at he
      rw [if_pos rfl] at he
      obtain ⟨⟨q1, q2⟩, e3, he⟩ := bind_eq he
      obtain ⟨⟨u1, u2⟩, e4, he⟩ := map_eq he
      cases he
      refine wpAny_bind (hB A _ s3 α3 r2 vs1 acc q1 q2 _ room (fun k hk => put_none e1 k (hv0 k hk).1 (hv0 k hk).2) c3 e3 (by simp at hl; omega) fun s4 α4 sm4 x4 K4 c4 => wpAny_pure ⟨rfl, ?_⟩)
      have hI3 := Al.off hIα3
      have T4 : IterAt s4.heap α4 I xs (k + 1) := T3.keep K4 (fun o e => x4.keep _ _ hI3 (by simp [hDI.symm, hCI.symm]) e)
      obtain ⟨o3, eI3, _⟩ := T3.there
      refine ih (k + 1) (by omega) (c4.less (put_ext e1 hoff)) T4 (x4.offAll hIα3 eI3) e4 (by simp at hl ⊢; omega) (x03.transY x4 (fun a ha => ?_)) ((K0.trans K13).trans K4) fun s' α' sm x K c' => hR s' α' ((sm13.trans sm4).trans sm) x K (by simpa using c')
      rcases List.mem_cons.mp ha with rfl | ha
      · exact hDX
      · rw [List.mem_singleton.mp ha]; exact hCX
end Mine
end
section
namespace Mine
open PySem
variable {W : Wd} {n : Nat} {sc : Scope}
noncomputable def relabelS (scope sc : Scope) : Scope :=
  { scope with names := scope.names.map fun (n, k) => if (k == .free && sc.kind == .function && sc.names.lookup n == some .cell) then (n, .cell) else (n, k) }
noncomputable def clOf (env : Env) : List (Str × NameKind) → List (Str × Addr) → List (Str × Addr)
  | [], acc => acc
  | x :: r, acc => if x.2 = .free then clOf env r ((x.1, (env.cells.lookup x.1).getD 0) :: acc) else clOf env r acc
theorem clOf_run (env : Env) (f : Str × NameKind → List (Str × Addr) → Sem (ForInStep (List (Str × Addr)))) (hf : ∀ x acc, f x acc = if (x.2 == NameKind.free) = true then do let a ← cellOf env x.1; pure (ForInStep.yield ((x.1, a) :: acc)) else pure (ForInStep.yield acc)) :
    ∀ (names : List (Str × NameKind)) (acc : List (Str × Addr)), (∀ x ∈ names, x.2 = .free → (env.cells.lookup x.1).isSome) → forIn names acc f = pure (clOf env names acc)
  | [], acc, _ => rfl
  | x :: r, acc, h => by
    rw [List.forIn_cons, hf]
    unfold clOf
    by_cases hk : x.2 = .free
    · have hb : (x.2 == NameKind.free) = true := by simp [hk]
      obtain ⟨a, ha⟩ := Option.isSome_iff_exists.mp (h x List.mem_cons_self hk)
      rw [if_pos hb, if_pos hk, ha]
      unfold cellOf
      rw [ha]
      simp only [pure_bind, Option.getD_some]
      exact clOf_run env f hf r _ fun y hy => h y (List.mem_cons_of_mem _ hy)
    · have hb : ¬ (x.2 == NameKind.free) = true := by simpa using hk
      rw [if_neg hb, if_neg hk]
      simp only [pure_bind]
      exact clOf_run env f hf r _ fun y hy => h y (List.mem_cons_of_mem _ hy)
theorem closureFor_cl {scope : Scope} {env : Env} (h : ∀ x ∈ scope.names, x.2 = .free → (env.cells.lookup x.1).isSome) : closureFor scope env = pure (clOf env scope.names []) := by
  simp only [closureFor]
  rw [clOf_run env _ (fun x acc => by cases x; rfl) scope.names [] h]
  simp only [pure_bind]
theorem clOf_mem (env : Env) : ∀ (names : List (Str × NameKind)) (acc : List (Str × Addr)) (p : Str × Addr), p ∈ clOf env names acc → p ∈ acc ∨ ((p.1, NameKind.free) ∈ names ∧ p.2 = (env.cells.lookup p.1).getD 0)
  | [], acc, p, h => .inl h
  | x :: r, acc, p, h => by
    unfold clOf at h
    split at h
    · rename_i hk
      rcases clOf_mem env r _ p h with h | h
      · rcases List.mem_cons.mp h with rfl | h
        · exact .inr ⟨by rw [← hk]; exact List.mem_cons_self, rfl⟩
        · exact .inl h
      · exact .inr ⟨List.mem_cons_of_mem _ h.1, h.2⟩
    · rcases clOf_mem env r _ p h with h | h
      · exact .inl h
      · exact .inr ⟨List.mem_cons_of_mem _ h.1, h.2⟩
theorem clOf_acc (env : Env) : ∀ (names : List (Str × NameKind)) (acc : List (Str × Addr)) (p : Str × Addr), p ∈ acc → p ∈ clOf env names acc
  | [], acc, p, h => h
  | x :: r, acc, p, h => by
    unfold clOf
    split
    · exact clOf_acc env r _ p (List.mem_cons_of_mem _ h)
    · exact clOf_acc env r _ p h
theorem clOf_has (env : Env) : ∀ (names : List (Str × NameKind)) (acc : List (Str × Addr)) (x : Str), (x, NameKind.free) ∈ names → (x, (env.cells.lookup x).getD 0) ∈ clOf env names acc
  | y :: r, acc, x, h => by
    unfold clOf
    rcases List.mem_cons.mp h with rfl | h
    · rw [if_pos rfl]; exact clOf_acc env r _ _ List.mem_cons_self
    · split
      · exact clOf_has env r _ x h
      · exact clOf_has env r _ x h
theorem clOf_nodup (env : Env) : ∀ (names : List (Str × NameKind)) (acc : List (Str × Addr)), (names.map (·.1)).Nodup → acc.Pairwise (fun p q => p.1 ≠ q.1) → (∀ p ∈ acc, p.1 ∉ names.map (·.1)) → (clOf env names acc).Pairwise (fun p q => p.1 ≠ q.1)
  | [], acc, _, h, _ => h
  | x :: r, acc, hn, h, hd => by
    rw [List.map_cons, List.nodup_cons] at hn
    unfold clOf
    split
    · refine clOf_nodup env r _ hn.2 (List.pairwise_cons.mpr ⟨fun p hp z => hd p hp (by rw [← z]; exact List.mem_cons_self), h⟩) fun p hp => ?_
      rcases List.mem_cons.mp hp with rfl | hp
      · exact hn.1
      · exact fun m => hd p hp (List.mem_cons_of_mem _ m)
    · exact clOf_nodup env r _ hn.2 h fun p hp m => hd p hp (List.mem_cons_of_mem _ m)
theorem lookup_of_all {l : List (Str × Addr)} {x : Str} {a : Addr} (h : ∀ b, (x, b) ∈ l → b = a) (hm : (x, a) ∈ l) : l.lookup x = some a := by
  cases q : l.lookup x with
  | none =>
    have z := List.lookup_eq_none_iff.mp q _ hm
    simp at z
  | some b => rw [h b (mem_of_lookup q)]
noncomputable def compOK (scope sc : Scope) (ts : List Nat) : Bool :=
  decide (scope.kind = .function) && decide ((scope.names.map (·.1)).Nodup) && ts.all (fun k => decide (k < nN)) &&
  scope.names.all fun x => match x.2 with
    | .local => decide (scope.names.lookup x.1 = some .local) && (decide (x.1 = (".0" : Str)) || ts.any fun k => decide (nm k = x.1))
    | .cell => false
    | .free => decide (sc.kind = .function) && decide (sc.names.lookup x.1 = some .cell) && (List.range nN).any fun k => decide (nm k = x.1)
    | _ => true
theorem nm_dot : ((List.range nN).all fun k => decide (nm k ≠ (".0" : Str))) = true := by decide +kernel
noncomputable def offL (ts : List Nat) (vs : Vars) : Vars := fun k => if k ∈ ts then none else vs k
structure CompOK (scope sc : Scope) (ts : List Nat) : Prop where
  kind : scope.kind = .function
  nodup : (scope.names.map (·.1)).Nodup
  nocell : ∀ x ∈ scope.names, x.2 ≠ .cell
  lself : ∀ x ∈ scope.names, x.2 = .local → scope.names.lookup x.1 = some .local
  loc : ∀ k, k < nN → (nm k, NameKind.local) ∈ scope.names → k ∈ ts
  free : ∀ x ∈ scope.names, x.2 = .free → sc.kind = .function ∧ sc.names.lookup x.1 = some .cell ∧ ∃ k, k < nN ∧ nm k = x.1
theorem compOK_iff {scope sc : Scope} {ts : List Nat} (h : compOK scope sc ts = true) : CompOK scope sc ts := by
  unfold compOK at h
  simp only [Bool.and_eq_true, decide_eq_true_eq, List.all_eq_true] at h
  obtain ⟨⟨⟨h1, h2⟩, h3⟩, h4⟩ := h
  refine ⟨h1, h2, fun x hx z => ?_, fun x hx z => ?_, fun k hk hx => ?_, fun x hx z => ?_⟩
  · have := h4 x hx; rw [z] at this; cases this
  · have := h4 x hx; rw [z] at this
    simp only [Bool.and_eq_true, decide_eq_true_eq] at this
    exact this.1
  · have := h4 _ hx
    simp only [Bool.and_eq_true, decide_eq_true_eq, Bool.or_eq_true, List.any_eq_true] at this
    rcases this.2 with e | ⟨j, hj, e⟩
    · have q := List.all_eq_true.mp nm_dot k (List.mem_range.mpr hk)
      exact absurd e (of_decide_eq_true q)
    · rw [← nm_inj (h3 j hj) hk e]; exact hj
  · have := h4 x hx; rw [z] at this
    simp only [Bool.and_eq_true, decide_eq_true_eq, List.any_eq_true, List.mem_range] at this
    exact ⟨this.1.1, this.1.2, this.2⟩
theorem rel_local {scope sc : Scope} {x : Str} (h : (relabelS scope sc).names.lookup x = some .local) : (x, NameKind.local) ∈ scope.names := by
  have := mem_of_lookup h
  unfold relabelS at this
  obtain ⟨⟨a, k⟩, hm, e⟩ := List.mem_map.mp this
  dsimp only at e
  split at e
  · cases e
  · cases e; exact hm
theorem rel_cell {scope sc : Scope} {ts : List Nat} (c : CompOK scope sc ts) {x : Str} (h : (relabelS scope sc).names.lookup x = some .cell) : (x, NameKind.free) ∈ scope.names := by
  have := mem_of_lookup h
  unfold relabelS at this
  obtain ⟨⟨a, k⟩, hm, e⟩ := List.mem_map.mp this
  dsimp only at e
  split at e
  · rename_i hb
    cases e
    simp only [Bool.and_eq_true, beq_iff_eq] at hb
    rw [← hb.1.1]; exact hm
  · cases e; exact absurd rfl (c.nocell _ hm)
theorem FrOK.comp {scope : Scope} {ts : List Nat} {h h' : Heap} {α α' : Al} (hh : α'.hs = α.hs) {env : Env} {vs : Vars} {C : Addr} (c : CompOK scope sc ts) (hs : env.scope = sc) (F : FrOK W.h₀ h α env vs) (x : ∀ a o, h.get? a = some o → h'.get? a = some o) (K : KeepS h α h' α')
    (hC : h.get? C = none) (hC' : C ∉ α.hs) (hC0 : W.h₀.get? C = none) (hn : h'.Ns C fun _ => none) (cenv : Env) (e1 : cenv.scope = relabelS scope sc) (e2 : cenv.locals = C) (e3 : cenv.globals = env.globals) (e4 : cenv.builtins = env.builtins) (e5 : cenv.cells = clOf env scope.names []) :
    FrOK W.h₀ h' α' cenv (offL ts vs) := by
  have hfree : ∀ k, k < nN → (nm k, NameKind.free) ∈ scope.names → ∃ a, env.cells.lookup (nm k) = some a ∧ cenv.cells.lookup (nm k) = some a ∧ env.kindOf (nm k) = some .cell := by
    intro k hk hm
    have hf := c.free _ hm rfl
    have hkc : env.kindOf (nm k) = some .cell := by show env.scope.names.lookup (nm k) = _; rw [hs]; exact hf.2.1
    obtain ⟨a, ha⟩ := F.chas k hk hkc
    refine ⟨a, ha, ?_, hkc⟩
    rw [e5]
    refine lookup_of_all (fun b hb => ?_) ?_
    · rcases clOf_mem env _ _ _ hb with h | ⟨_, h⟩
      · cases h
      · dsimp only at h; rw [h, ha]; rfl
    · have := clOf_has env scope.names [] (nm k) hm
      rw [ha] at this; exact this
  have hcells : ∀ p ∈ cenv.cells, env.cells.lookup p.1 = some p.2 := by
    intro p hp
    rw [e5] at hp
    rcases clOf_mem env _ _ _ hp with h | ⟨hm, h⟩
    · cases h
    · obtain ⟨_, _, k, hk, ek⟩ := c.free _ hm rfl
      dsimp only at ek
      obtain ⟨a, ha, _, _⟩ := hfree k hk (by rw [ek]; exact hm)
      rw [ek] at ha
      rw [h, ha]; rfl
  have hkind : ∀ y, cenv.kindOf y = (relabelS scope sc).names.lookup y := fun y => by show cenv.scope.names.lookup y = _; rw [e1]
  refine ⟨by rw [e1]; exact c.kind, by rw [e3]; exact F.glb, by rw [e4]; exact F.blt, by rw [e2]; exact hC0, by rw [e2, hh]; exact hC', ⟨_, e2 ▸ hn, fun k pv hk ev q => ?_⟩, fun p hp => ?_, ?_, fun k hk q => ?_, fun k pv hk ev q => ?_⟩
  · rw [hkind] at q
    have := c.loc k hk (rel_local q)
    unfold offL at ev
    rw [if_pos this] at ev; cases ev
  · have hl := hcells p hp
    obtain ⟨c0, c1, c2, v, o, eo, hd⟩ := F.cel (p.1, p.2) (mem_of_lookup hl)
    refine ⟨c0, hh ▸ c1, ?_, v, o, x _ _ eo, hd⟩
    rw [e2]; intro z; rw [z, hC] at eo; cases eo
  · have hp : cenv.cells.Pairwise fun p q => p.1 ≠ q.1 := by
      rw [e5]; exact clOf_nodup env _ _ c.nodup .nil (fun _ hp => by cases hp)
    refine List.Pairwise.imp_of_mem (fun {p q} hp hq hne z => hne ?_) hp
    have h1 := mem_of_lookup (hcells p hp)
    have h2 := mem_of_lookup (hcells q hq)
    rw [z] at h1
    exact name_of_addr F.apart h1 h2
  · rw [hkind] at q
    obtain ⟨a, _, ha, _⟩ := hfree k hk (rel_cell c q)
    exact ⟨a, ha⟩
  · rw [hkind] at q
    obtain ⟨a, h1, h2, h3⟩ := hfree k hk (rel_cell c q)
    have ev' : vs k = some pv := by
      unfold offL at ev
      split at ev
      · cases ev
      · exact ev
    obtain ⟨b, v, g1, ⟨o, eo, hd⟩, r⟩ := F.cval k pv hk ev' h3
    rw [h1] at g1; cases g1
    exact ⟨a, v, h2, ⟨o, x _ _ eo, hd⟩, r.keep (fun _ _ e => by rw [hh]; exact e) K⟩
end Mine
end
section
namespace Mine
open PySem
variable {W : Wd} {n : Nat} {sc : Scope}
theorem IterAt.noCell {h : Heap} {α : Al} {I : Addr} {xs : List PyData} {k : Nat} (x : IterAt h α I xs k) {v : Option Value} : ¬ h.IsCell I v := by
  rintro ⟨o', e', d'⟩
  cases x with
  | list h1 _ _ _ _ => obtain ⟨o, e, _, d⟩ := h1; rw [e'] at e; cases e; rw [d'] at d; cases d
  | tuple h1 _ _ _ _ => obtain ⟨o, e, _, d⟩ := h1; rw [e'] at e; cases e; rw [d'] at d; cases d
  | range h1 _ => have h1' := e'.symm.trans h1; cases h1'; cases d'
theorem comp_core {elt target iter : Expr} {ifs : List Expr} {rest : List Comprehension} {scope : Scope} {pos p q : Pos} {t : Tgt} {fs : List PT} {f fi : PI} {ts os : List Nat} {B : Addr → Env → Sem Unit}
    (hturn : ∀ I D cenv, compTurn (.ListComp elt (⟨target, iter, ifs, 0⟩ :: rest) scope pos) 0 (.ref I) (.ref D) cenv = turnG p target ifs (B D cenv) (.compLoop (.ListComp elt (⟨target, iter, ifs, 0⟩ :: rest) scope pos) 0 (.ref I) (.ref D) cenv) (.ref I) cenv)
    (hit : ISim W n sc iter fi) (hset : ∀ env x, foldedSetIterable iter env x = pure x) (ht : TgtIs (relabelS scope sc) target t) (htl : ∀ k ∈ t.ks, (relabelS scope sc).names.lookup (nm k) = some .local) (hifs : TSims W n (relabelS scope sc) ifs fs)
    (hB : ∀ (cenv : Env) (D : Addr), cenv.scope = relabelS scope sc → BSim W n cenv D (B D cenv) os f) (hc : CompOK scope sc ts) (hts : ∀ k ∈ t.ks, k ∈ ts) (hos : ∀ k ∈ os, k ∉ t.ks ∧ k ∈ ts)
    {A : Around} {E : Value → Shared → Prop} {env : Env} {α : Al} {s : Shared} {vs : Vars} {st st1 st' : St} {xs ys : List PyData} (room : Room A n) (hs : env.scope = sc) (hf : FrOK W.h₀ s.heap α env vs) (hi : W.Inv s.heap α st) (e1 : fi vs st = some (xs, st1)) (e2 : compG t fs f xs (offL ts vs) st1 = some (ys, st')) (hl : xs.length ≤ 1000000 → ys.length ≤ 1000000)
    {use : Option (Value → Sem Unit)} {Q : Value → Shared → Prop}
    (hQ : ∀ s' α' D C m, same s s' → Ext [] s.heap α s'.heap α' → W.Inv s'.heap α' st' → Rep s'.heap α' (.ref D) (.list ys) → s.heap.get? C = none → C ∉ α'.all → C ≠ D → s'.heap.Ns C m → compPost (model W.prog W.w) A E use Q (.ref D) C (.ok .next) s') :
    wpAny (model W.prog W.w) A (comprehension (.ListComp elt (⟨target, iter, ifs, 0⟩ :: rest) scope pos) scope env q (newList []) false (eval iter env) use) Q E s := by
  have hfree : ∀ x ∈ scope.names, x.2 = .free → (env.cells.lookup x.1).isSome := fun x hx hk => by
    obtain ⟨_, g1, k, hk', g2⟩ := hc.free x hx hk
    rw [← g2] at g1 ⊢
    obtain ⟨a, ha⟩ := hf.chas k hk' (by show env.scope.names.lookup _ = _; rw [hs]; exact g1)
    rw [ha]; rfl
  refine wpAny_comprehension_free (cl := clOf env scope.names []) rfl (hset env) (closureFor_cl hfree) hc.kind hc.lself ?_
  refine hit A E env α s vs st xs st1 _ room hs hf hi e1 fun s2 α2 I sm2 x2 i2 T hI hIα hxl => ?_
  have F2 := hf.step x2
  obtain ⟨β, rfl, hβ⟩ := id x2.app
  refine wpAny_newObj_type (wpAny_newFunctionEnv hc.nocell (by intro y hy; simp at hy) (fun h4 hns hsb => ?_) hc.kind)
  dsimp only at hns hsb ⊢
  generalize hH3 : s2.heap.push { cls := .type "list", dict := none, data := .seq ([] : List Value).toArray } = H3 at hns hsb ⊢
  have hsz : H3.objs.size = s2.heap.objs.size + 1 := by rw [← hH3, Heap.size_push]
  have hD : s2.heap.get? s2.heap.objs.size = none := fresh_none _
  have eD3 : H3.get? s2.heap.objs.size = some { cls := .type "list", data := .seq ([] : List Value).toArray } := by rw [← hH3]; exact Heap.get?_push_size _ rfl
  have h23 : ∀ b o, s2.heap.get? b = some o → H3.get? b = some o := fun b o e => by rw [← hH3]; exact Heap.get?_push_of_some _ e
  generalize hDD : s2.heap.objs.size = D at hsz hD eD3 ⊢
  have hC3 : H3.get? H3.objs.size = none := fresh_none _
  have hCD : H3.objs.size ≠ D := by omega
  have hC : s2.heap.get? H3.objs.size = none := by
    cases z : s2.heap.get? H3.objs.size with
    | none => rfl
    | some o => rw [h23 _ _ z] at hC3; cases hC3
  have h34 : ∀ b o, H3.get? b = some o → h4.get? b = some o := fun b o e => hsb.extBut b o (fun z => by rw [z, hC3] at e; cases e) (Heap.get?_push_of_some _ e)
  generalize hCC : H3.objs.size = C at hns hsb hC3 hCD hC ⊢
  have h24 : ∀ b o, s2.heap.get? b = some o → h4.get? b = some o := fun b o e => h34 b o (h23 b o e)
  have eD4 := h34 _ _ eD3
  obtain ⟨i4, K4⟩ := Inv.exclude (h' := h4) i2 hD h24 ⟨_, eD4⟩
  obtain ⟨_, x24⟩ := i2.grow h24
  have hC2 : C ∉ (⟨α.hs ++ β, α.ex⟩ : Al).all := Mine.Inv.off i2 hC
  have hD2 : D ∉ (⟨α.hs ++ β, α.ex⟩ : Al).all := Mine.Inv.off i2 hD
  obtain ⟨oI, eI, qI⟩ := T.there
  have hIC : I ≠ C := fun z => by rw [z, hC] at eI; cases eI
  have hID : I ≠ D := fun z => by rw [z, hD] at eI; cases eI
  have main : ∀ cenv : Env, cenv.scope = relabelS scope sc → cenv.locals = C → cenv.globals = env.globals → cenv.builtins = env.builtins → cenv.cells = clOf env scope.names [] → ∀ s4 : Shared, s4.heap = h4 → same s s4 →
      codeAny (model W.prog W.w) A (.compStart (.ListComp elt (⟨target, iter, ifs, 0⟩ :: rest) scope pos) 0 (.ref I) (.ref D) cenv) (compPost (model W.prog W.w) A E use Q (.ref D) cenv.locals) s4 := by
    intro cenv c1 c2 c3 c4 c5 s4 hs4 sm4
    subst hs4
    have F4 : FrOK W.h₀ s4.heap ⟨α.hs ++ β, D :: α.ex⟩ cenv (offL ts vs) := FrOK.comp (α := ⟨α.hs ++ β, α.ex⟩) (α' := ⟨α.hs ++ β, D :: α.ex⟩) rfl hc hs F2 h24 K4 hC (Al.off hC2) (i2.none0 hC) hns cenv c1 c2 c3 c4 c5
    have T4 : IterAt s4.heap ⟨α.hs ++ β, D :: α.ex⟩ I xs 0 := T.keep K4 fun o e => h24 _ _ e
    have hIX : I ∉ frX cenv := fun m => by
      rcases List.mem_cons.mp m with z | m
      · exact hIC (z.trans c2)
      · obtain ⟨pp, hp, rfl⟩ := List.mem_map.mp m
        obtain ⟨_, _, _, v, hv⟩ := F4.cel pp hp
        exact T4.noCell hv
    have hDX : D ∉ frX cenv := fun m => by
      rcases List.mem_cons.mp m with z | m
      · exact hCD (c2.symm.trans z.symm)
      · obtain ⟨pp, hp, rfl⟩ := List.mem_map.mp m
        obtain ⟨_, _, _, v, o, eo, hv⟩ := F4.cel pp hp
        rw [eD4] at eo; cases eo; cases hv
    have C4 : CompSt W cenv D s4 ⟨α.hs ++ β, D :: α.ex⟩ st1 (offL ts vs) [] := ⟨i4, F4, List.mem_cons_self, Al.off (α := ⟨α.hs ++ β, α.ex⟩) hD2, i2.none0 hD, hDX, _, _, eD4, .nil⟩
    have x4 : Ext [] s.heap ⟨α.hs, D :: α.ex⟩ s4.heap ⟨α.hs ++ β, D :: α.ex⟩ := (x2.trans x24).adj (D :: α.ex)
    have hIα4 : I ∉ (⟨α.hs ++ β, D :: α.ex⟩ : Al).all := fun m => by
      rcases List.mem_append.mp m with m | m
      · exact Al.off hIα m
      · rcases List.mem_cons.mp m with z | m
        · exact hID z
        · exact hIα (List.mem_append_right _ m)
    have loop : codeAny (model W.prog W.w) A (.compLoop (.ListComp elt (⟨target, iter, ifs, 0⟩ :: rest) scope pos) 0 (.ref I) (.ref D) cenv) (compPost (model W.prog W.w) A E use Q (.ref D) cenv.locals) s4 := by
      refine comp_loop (X := []) (hb := s.heap) (αb := ⟨α.hs, D :: α.ex⟩) (hturn I D cenv) ht htl hifs (hB cenv D c1) (fun k hk => ⟨(hos k hk).1, by unfold offL; rw [if_pos (hos k hk).2]⟩) c1 (hi.none0 hI) room (fun k hk => by unfold offL; rw [if_pos (hts k hk)]) hIX hI (.inr (x2.new0 hD)) (.inr (by rw [c2]; exact x2.new0 hC)) xs.length 0 rfl C4 T4 hIα4 (by simpa using e2) (by simpa using hl hxl) x4 x4.keep0 fun s' α' sm x K c' => ?_
      obtain ⟨γ, rfl, hγ⟩ := id x.app
      obtain ⟨i', K'⟩ := Inv.include c'.inv
      obtain ⟨us, kn, eD, rs⟩ := c'.lst
      obtain ⟨m, hm, _⟩ := c'.fr.loc
      have hCx : C ∉ α.ex := fun z => hC2 (List.mem_append_right _ z)
      have hDx : D ∉ α.ex := fun z => hD2 (List.mem_append_right _ z)
      rw [c2] at hm ⊢
      refine hQ s' ⟨α.hs ++ γ, α.ex⟩ D C m (sm4.trans sm) (x.adj α.ex) i' (.list eD (fun z => ?_) (Reps.keep K' (by simpa using rs))) (x2.new0 hC) (fun z => ?_) hCD hm
      · rcases List.mem_append.mp z with z | z
        · exact c'.hs z
        · exact hDx z
      · rcases List.mem_append.mp z with z | z
        · exact c'.fr.Lα (by rw [c2]; exact z)
        · exact hCx z
    exact codeAny_compStart_list loop (T4.self loop)
  have sm4 : same s ({ s2 with heap := h4, toks := s2.toks + ([] : List (Str × Value)).length } : Shared) := sm2.trans ⟨_, _, rfl⟩
  refine main (compEnvC scope (clOf env scope.names []) C env) ?_ rfl rfl rfl rfl _ rfl sm4
  rw [← hs]; rfl
theorem comp_last {s : Shared} {α : Al} {st : St} {h' : Heap} {C D : Addr} {m : Str → Option Value} {ys : List PyData} (i : W.Inv s.heap α st) (r : Rep s.heap α (.ref D) (.list ys)) (hC : C ∉ α.all) (hC0 : W.h₀.get? C = none) (hm : s.heap.Ns C m) (hs : Heap.SameBut C s.heap h') :
    W.Inv h' α st ∧ Rep h' α (.ref D) (.list ys) ∧ KeepS s.heap α h' α := by
  obtain ⟨i2, K⟩ := Inv.lose (h' := h') i hC hC0 (ns_noSeq hm) fun a o ha e => hs.extBut a o ha e
  exact ⟨i2, Rep.keep K r, K⟩
theorem put_off (t : Tgt) (vs : Vars) (x : PyData) : t.put (offL t.ks vs) x = t.put vs x := by
  cases t with
  | one k =>
    show some _ = some _
    congr 1; funext j
    simp only [upd, offL, Tgt.ks, List.mem_singleton]
    split <;> rfl
  | two k l =>
    cases x with
    | tuple xs =>
      match xs with
      | [] => rfl
      | [a] => rfl
      | [a, b] =>
        show some _ = some _
        congr 1; funext j
        simp only [upd, offL, Tgt.ks, List.mem_cons, List.not_mem_nil, or_false]
        split
        · rfl
        · split
          · rfl
          · rename_i h1 h2
            rw [if_neg (fun h => h.elim (fun h => h2 h) (fun h => h1 h))]
      | a :: b :: c :: r => rfl
    | _ => rfl
theorem compG_off (t : Tgt) (fs : List PT) (f : PI) : ∀ (xs : List PyData) (vs : Vars) (st : St), compG t fs f xs (offL t.ks vs) st = compG t fs f xs vs st
  | [], _, _ => rfl
  | x :: xs, vs, st => by
    unfold compG
    rw [put_off]
    congr 1; funext vs1
    congr 1; funext r
    split
    · congr 1; funext q
      rw [compG_off t fs f xs]
    · exact compG_off t fs f xs vs r.2
theorem compG_len (t : Tgt) (fs : List PT) (g : PE) : ∀ (xs : List PyData) (vs : Vars) (st : St) (ys : List PyData) (st' : St), compG t fs (eltF g) xs vs st = some (ys, st') → ys.length ≤ xs.length
  | [], _, _, ys, _, h => by cases h; simp
  | x :: xs, vs, st, ys, st', h => by
    unfold compG at h
    obtain ⟨vs1, e1, h⟩ := bind_eq h
    obtain ⟨r, e2, h⟩ := bind_eq h
    split at h
    · obtain ⟨q, e3, h⟩ := bind_eq h
      obtain ⟨u, e4, h⟩ := map_eq h
      cases h
      have := compG_len t fs g xs vs q.2 u.1 u.2 e4
      obtain ⟨z, e5, e6⟩ := bind_eq e3
      obtain ⟨y, e7, e8⟩ := map_eq e6
      cases e8
      simp; omega
    · have := compG_len t fs g xs vs r.2 ys st' h
      simp; omega
theorem eComp_dat {t : Tgt} {fi : PI} {fs : List PT} {g : PE} {vs : Vars} {st st' : St} {v : PV} (h : eComp t fi fs g vs st = some (v, st')) : ∃ xs ys st1, v = .d (.list ys) ∧ fi vs st = some (xs, st1) ∧ compG t fs (eltF g) xs (offL t.ks vs) st1 = some (ys, st') ∧ (xs.length ≤ 1000000 → ys.length ≤ 1000000) := by
  obtain ⟨⟨xs, st1⟩, e1, h⟩ := bind_eq h
  obtain ⟨⟨ys, st2⟩, e2, h⟩ := map_eq h
  cases h
  dsimp only at e2
  rw [compL_G] at e2
  exact ⟨xs, ys, st1, rfl, e1, by rw [compG_off]; exact e2, fun hx => Nat.le_trans (compG_len t fs g _ _ _ _ _ e2) hx⟩
theorem comp1 {elt target iter : Expr} {ifs : List Expr} {scope : Scope} {pos q : Pos} {t : Tgt} {fs : List PT} {g : PE} {fi : PI} (hset : ∀ env x, foldedSetIterable iter env x = pure x) (hc : compOK scope sc t.ks = true) (hit : ISim W n sc iter fi) (ht : TgtIs (relabelS scope sc) target t) (htl : ∀ k ∈ t.ks, (relabelS scope sc).names.lookup (nm k) = some .local) (hifs : TSims W n (relabelS scope sc) ifs fs)
    (he : ESim W n (relabelS scope sc) elt g) {A : Around} {E : Value → Shared → Prop} {env : Env} {α : Al} {s : Shared} {vs : Vars} {st st' : St} {v : PV} (room : Room A n) (hs : env.scope = sc) (hf : FrOK W.h₀ s.heap α env vs) (hi : W.Inv s.heap α st) (he' : eComp t fi fs g vs st = some (v, st'))
    {use : Option (Value → Sem Unit)} {Q : Value → Shared → Prop}
    (hQ : ∀ s' α' D C m ys, v = .d (.list ys) → same s s' → Ext [] s.heap α s'.heap α' → W.Inv s'.heap α' st' → Rep s'.heap α' (.ref D) (.list ys) → s.heap.get? C = none → C ∉ α'.all → C ≠ D → s'.heap.Ns C m → compPost (model W.prog W.w) A E use Q (.ref D) C (.ok .next) s') :
    wpAny (model W.prog W.w) A (comprehension (.ListComp elt [⟨target, iter, ifs, 0⟩] scope pos) scope env q (newList []) false (eval iter env) use) Q E s := by
  obtain ⟨xs, ys, st1, rfl, e1, e2, hl⟩ := eComp_dat he'
  exact comp_core (os := []) (fun I D cenv => turn_one elt target iter ifs scope pos (.ref I) (.ref D) cenv) hit hset ht htl hifs (fun cenv D h => BSim.elt he h) (compOK_iff hc) (fun k hk => hk) (fun k hk => by cases hk) room hs hf hi e1 e2 hl
    fun s' α' D C m sm x i r h1 h2 h3 h4 => hQ s' α' D C m ys rfl sm x i r h1 h2 h3 h4
theorem ESim.comp {elt target iter : Expr} {ifs : List Expr} {scope : Scope} {pos : Pos} {t : Tgt} {fs : List PT} {g : PE} {fi : PI} (hset : ∀ env x, foldedSetIterable iter env x = pure x) (hc : compOK scope sc t.ks = true) (hit : ISim W n sc iter fi) (ht : TgtIs (relabelS scope sc) target t) (htl : ∀ k ∈ t.ks, (relabelS scope sc).names.lookup (nm k) = some .local) (hifs : TSims W n (relabelS scope sc) ifs fs)
    (he : ESim W n (relabelS scope sc) elt g) : ESim W n sc (.ListComp elt [⟨target, iter, ifs, 0⟩] scope pos) (eComp t fi fs g) := by
  intro A E env α s vs st v st' Q room hs hf hi he' hQ
  rw [eval_ListComp]
  refine comp1 (use := .none) hset hc hit ht htl hifs he room hs hf hi he' fun s' α' D C m ys hv sm x i r h1 h2 h3 h4 => ?_
  subst hv
  refine ⟨m, h4, fun h' hs' => ?_⟩
  obtain ⟨i2, r2, K2⟩ := comp_last i r h2 (hi.none0 h1) h4 hs'
  exact hQ _ α' _ (sm.trans ⟨_, _, rfl⟩) (x.lose h1 fun a o ha e => hs'.extBut a o ha e) i2 r2
end Mine
end
section
namespace Mine
open PySem
variable {W : Wd} {n : Nat} {sc : Scope}
theorem compStart1 {prog : Program} {w : World} {A : Around} {R : Result → Shared → Prop} {s : Shared} {elt target iter ifs target2 iter2 ifs2 scope pos it acc env}
    (h0 : codeAny (model prog w) A (.compLoop (.ListComp elt [⟨target, iter, ifs, 0⟩, ⟨target2, iter2, ifs2, 0⟩] scope pos) 1 it acc env) R s)
    (h : wpAny (model prog w) A (pyIter it) (fun it' s' => codeAny (model prog w) A (.compLoop (.ListComp elt [⟨target, iter, ifs, 0⟩, ⟨target2, iter2, ifs2, 0⟩] scope pos) 1 it' acc env) R s')
      (notedBy (model prog w) A env fun x s' => R (.error x) s') s) :
    codeAny (model prog w) A (.compStart (.ListComp elt [⟨target, iter, ifs, 0⟩, ⟨target2, iter2, ifs2, 0⟩] scope pos) 1 it acc env) R s := by
  refine codeAny_of_tree ?_
  show wpAny _ _ ((compStart (.ListComp elt [⟨target, iter, ifs, 0⟩, ⟨target2, iter2, ifs2, 0⟩] scope pos) 1 it acc env).onRaise (fun x => do noteFrame x env; standAt theWindowsPlace)) _ _ s
  refine wpAny_notedAt ?_
  unfold compStart
  show wpAny _ _ (ask >>= _) _ _ s
  refine wpAny_bind (wpAny_askSetting (wpAny_ite ?_))
  split
  · first
      | exact wpAny_bind (wpAny_pure (wpAny_pure (And.intro rfl h0)))
      | exact wpAny_pure (And.intro rfl h0)
  · first
      | exact wpAny_bind (wpAny_rule (wpAny_bind (wpAny_standAt (wpAny_bind (wpAny_mono h (fun it' s' h' => wpAny_pure (And.intro rfl h')) fun _ _ x => x)))))
      | (refine wpAny_bind (wpAny_rule ?_); show wpAny _ _ (standAt iter2.pos >>= _) _ _ s; exact wpAny_bind (wpAny_standAt (wpAny_bind (wpAny_mono h (fun it' s' h' => wpAny_pure (And.intro rfl h')) fun _ _ x => x))))
theorem BSim.inner {elt target iter target2 iter2 : Expr} {scope : Scope} {pos : Pos} {u : Tgt} {g : PE} {fi2 : PI} {cenv : Env} {D : Addr} (hset2 : ∀ env x, foldedSetIterable iter2 env x = pure x) (hit2 : ISim W n sc iter2 fi2) (ht2 : TgtIs sc target2 u) (htl2 : ∀ k ∈ u.ks, sc.names.lookup (nm k) = some .local) (he : ESim W n sc elt g) (hsc : cenv.scope = sc) :
    BSim W n cenv D (do
        let x ← eval iter2 cenv
        standAt iter2.pos
        let x ← foldedSetIterable iter2 cenv x
        let _ ← runOwn (.compStart (.ListComp elt [⟨target, iter, [], 0⟩, ⟨target2, iter2, [], 0⟩] scope pos) 1 (← holding [x] (pyIter x)) (.ref D) cenv) cenv) u.ks
      (fun vs st => (fi2 vs st).bind fun r => compG u [] (eltF g) r.1 vs r.2) := by
  intro A E s α st vs acc ys st' Q room hvs c he' hl hQ
  obtain ⟨⟨xs, st1⟩, e1, e2⟩ := bind_eq he'
  refine wpAny_bind (wpAny_mono (hit2 A E cenv α s vs st xs st1 _ room hsc c.fr c.inv e1 fun s2 α2 I sm2 x2 i2 T hI hIα hxl => ?_) (fun x s1 h => wpAny_bind (wpAny_standAt (wpAny_bind (wpAny_of_eq (hset2 _ x) (wpAny_bind (wpAny_holding h)))))) fun _ _ e => e)
  have c2 := c.step x2 i2
  have hIX : I ∉ frX cenv := fun m => by
    obtain ⟨oI, eI, qI⟩ := T.there
    rcases List.mem_cons.mp m with z | m
    · obtain ⟨mm, ⟨o, _, _, eo, _⟩, _⟩ := c.fr.loc
      rw [← z, hI] at eo; cases eo
    · obtain ⟨pp, hp, rfl⟩ := List.mem_map.mp m
      obtain ⟨_, _, _, v, hv⟩ := c2.fr.cel pp hp
      exact T.noCell hv
  have loop := comp_loop (p := iter2.pos) (elt := elt) (target := target2) (gens := [⟨target, iter, [], 0⟩, ⟨target2, iter2, [], 0⟩]) (scope := scope) (pos := pos) (depth := 1) (t := u) (X := [D, cenv.locals]) (hb := s.heap) (αb := α) (A := A) (R := fun r s' => match r with | .ok f => wpAny (model W.prog W.w) A (pure ()) Q E s' | .error e => cameBackBy (model W.prog W.w) A cenv E e s')
    (turn_two1 elt target iter target2 iter2 [] [] scope pos (.ref I) (.ref D) cenv) ht2 htl2 .nil (BSim.elt (vs0 := []) he hsc) (fun k hk => by cases hk) hsc (c.inv.none0 hI) room hvs hIX hI (.inl (by simp)) (.inl (by simp)) xs.length 0 rfl c2 T hIα (by simpa using e2) hl (x2.weaken (by simp)) x2.keep0
    (fun s' α' sm x K c' => wpAny_pure (hQ s' α' (sm2.trans sm) x K c'))
  refine wpAny_bind (wpAny_runOwn ?_)
  exact compStart1 loop (T.self loop)
theorem offL_append (ts us : List Nat) (vs : Vars) : offL (ts ++ us) vs = offL ts (offL us vs) := by
  funext k
  unfold offL
  by_cases h1 : k ∈ ts
  · simp [h1]
  · by_cases h2 : k ∈ us <;> simp [h1, h2]
theorem compL2_G (t u : Tgt) (it2 : PI) (g : PE) : ∀ (xs : List PyData) (vs : Vars) (st : St), compL2 t u it2 g xs vs st = compG t [] (fun vs st => (it2 vs st).bind fun r => compG u [] (eltF g) r.1 vs r.2) xs vs st
  | [], _, _ => rfl
  | x :: xs, vs, st => by
    unfold compL2 compG
    congr 1; funext vs1
    show _ = Option.bind (some (true, st)) _
    simp only [Option.bind_some, if_true]
    cases h : it2 vs1 st with
    | none => rfl
    | some r =>
      simp only [Option.bind_some, compL_G]
      congr 1; funext q
      rw [compL2_G t u it2 g xs]
theorem ESim.comp2 {elt target iter target2 iter2 : Expr} {scope : Scope} {pos : Pos} {t u : Tgt} {g : PE} {fi fi2 : PI} (hset : ∀ env x, foldedSetIterable iter env x = pure x) (hset2 : ∀ env x, foldedSetIterable iter2 env x = pure x) (hc : compOK scope sc (t.ks ++ u.ks) = true) (hd : ∀ k ∈ u.ks, k ∉ t.ks) (hit : ISim W n sc iter fi) (hit2 : ISim W n (relabelS scope sc) iter2 fi2)
    (ht : TgtIs (relabelS scope sc) target t) (htl : ∀ k ∈ t.ks, (relabelS scope sc).names.lookup (nm k) = some .local) (ht2 : TgtIs (relabelS scope sc) target2 u) (htl2 : ∀ k ∈ u.ks, (relabelS scope sc).names.lookup (nm k) = some .local)
    (he : ESim W n (relabelS scope sc) elt g) : ESim W n sc (.ListComp elt [⟨target, iter, [], 0⟩, ⟨target2, iter2, [], 0⟩] scope pos) (eComp2 t u fi fi2 g) := by
  intro A E env α s vs st v st' Q room hs hf hi he' hQ
  obtain ⟨⟨xs, st1⟩, e1, h⟩ := bind_eq he'
  obtain ⟨⟨ys, st2⟩, e2, h⟩ := bind_eq h
  dsimp only at e2 h
  split at h
  · rename_i hz
    cases h
    rw [compL2_G] at e2
    have e3 := e2
    rw [show (fun k => if k ∈ u.ks then none else vs k) = offL u.ks vs from rfl, ← compG_off, ← offL_append] at e3
    rw [eval_ListComp]
    refine comp_core (use := .none) (os := u.ks) (ts := t.ks ++ u.ks) (fun I D cenv => turn_two0 elt target iter target2 iter2 [] [] scope pos (.ref I) (.ref D) cenv) hit hset ht htl .nil (fun cenv D h => BSim.inner hset2 hit2 ht2 htl2 he h) (compOK_iff hc) (fun k hk => List.mem_append_left _ hk) (fun k hk => ⟨hd k hk, List.mem_append_right _ hk⟩) room hs hf hi e1 e3 (fun _ => szOk_iff hz)
      fun s' α' D C m sm x i r h1 h2 h3 h4 => ⟨m, h4, fun h' hs' => ?_⟩
    obtain ⟨i2, r2, K2⟩ := comp_last i r h2 (hi.none0 h1) h4 hs'
    exact hQ _ α' _ (sm.trans ⟨_, _, rfl⟩) (x.lose h1 fun a o ha e => hs'.extBut a o ha e) i2 r2
  · cases h
end Mine
end
section
namespace Mine
open PySem
variable {W : Wd} {n : Nat} {sc : Scope}
noncomputable def FlowOK (h₀ h : Heap) (α : Al) (env : Env) (vs : Vars) : Flow → PFlow → Prop
  | .next, .next => FrOK h₀ h α env vs
  | .ret v, .ret pv => RepV h α v pv
  | _, _ => False
noncomputable def SSimT (W : Wd) (n : Nat) (sc : Scope) (t : Env → Sem Flow) (f : PS) : Prop :=
  ∀ (A : Around) (E : Value → Shared → Prop) (env : Env) (α : Al) (s : Shared) (vs : Vars) (st : St) (fl : PFlow) (vs' : Vars) (st' : St) (Q : Flow → Shared → Prop),
    Room A n → env.scope = sc → FrOK W.h₀ s.heap α env vs → W.Inv s.heap α st → f vs st = some (fl, vs', st') →
    (∀ s' α' r, same s s' → Ext (frX env) s.heap α s'.heap α' → KeepS s.heap α s'.heap α' → W.Inv s'.heap α' st' → FlowOK W.h₀ s'.heap α' env vs' r fl → Q r s') → wpAny (model W.prog W.w) A (t env) Q E s
noncomputable def SSim (W : Wd) (n : Nat) (sc : Scope) (b : Stmt) (f : PS) : Prop := SSimT W n sc (exec b) f
noncomputable def BlSim (W : Wd) (n : Nat) (sc : Scope) (b : List Stmt) (f : PS) : Prop := SSimT W n sc (execs b) f
theorem flow_next {h₀ h : Heap} {α : Al} {env : Env} {vs : Vars} {r : Flow} (h : FlowOK h₀ h α env vs r .next) : r = .next ∧ FrOK h₀ ‹Heap› α env vs := by
  cases r <;> first | exact ⟨rfl, h⟩ | exact absurd h (by simp [FlowOK])
theorem flow_ret {h₀ hp : Heap} {α : Al} {env : Env} {vs : Vars} {r : Flow} {pv : PV} (h : FlowOK h₀ hp α env vs r (.ret pv)) : ∃ v, r = .ret v ∧ RepV hp α v pv := by
  cases r <;> first | exact ⟨_, rfl, h⟩ | exact absurd h (by simp [FlowOK])
theorem BlSim.nil : BlSim W n sc [] (sSeq []) := by
  intro A E env α s vs st fl vs' st' Q room hs hf hi he hQ
  cases he
  exact wpAny_execs_nil (hQ s α .next (.refl s) (.refl _ _ _) (.refl _ _) hi hf)
theorem BlSim.cons {b : Stmt} {f : PS} {bs : List Stmt} {fs : List PS} (h : SSim W n sc b f) (h' : BlSim W n sc bs (sSeq fs)) : BlSim W n sc (b :: bs) (sSeq (f :: fs)) := by
  intro A E env α s vs st fl vs' st' Q room hs hf hi he hQ
  obtain ⟨⟨r1, r2, r3⟩, e1, he⟩ := bind_eq he
  refine wpAny_execs_cons (h A E env α s vs st r1 r2 r3 _ room hs hf hi e1 fun s1 α1 r sm1 x1 K1 i1 fo => ?_)
  cases r1 with
  | next =>
    obtain ⟨rfl, f1⟩ := flow_next fo
    exact h' A E env α1 s1 r2 r3 fl vs' st' Q room hs f1 i1 he fun s2 α2 r sm2 x2 K2 i2 fo => hQ s2 α2 r (sm1.trans sm2) (x1.trans x2) (K1.trans K2) i2 fo
  | ret pv =>
    cases he
    obtain ⟨v, rfl, rv⟩ := flow_ret fo
    exact hQ s1 α1 (.ret v) sm1 x1 K1 i1 rv
theorem SSim.ret {e : Expr} {pos : Pos} {f : PE} (h : ESim W n sc e f) : SSim W n sc (.Return (some e) pos) (sRet f) := by
  intro A E env α s vs st fl vs' st' Q room hs hf hi he hQ
  obtain ⟨⟨r1, r2⟩, e1, he⟩ := map_eq he
  cases he
  exact wpAny_Return_some (h A E env α s vs st r1 r2 _ room hs hf hi e1 fun s1 α1 pv sm1 x1 i1 rv => hQ s1 α1 (.ret pv) sm1 (x1.weaken (by simp)) x1.keep0 i1 rv)
theorem SSim.retNone {pos : Pos} : SSim W n sc (.Return none pos) sRetNone := by
  intro A E env α s vs st fl vs' st' Q room hs hf hi he hQ
  cases he
  exact wpAny_Return_none (hQ s α (.ret .none) (.refl s) (.refl _ _ _) (.refl _ _) hi .none)
theorem SSim.expr {e : Expr} {pos : Pos} {f : PE} (h : ESim W n sc e f) (hs' : ∀ env, swapsWith e none pos.line env = pure false) : SSim W n sc (.Expr e pos) (sExpr f) := by
  intro A E env α s vs st fl vs' st' Q room hs hf hi he hQ
  obtain ⟨⟨r1, r2⟩, e1, he⟩ := map_eq he
  cases he
  refine wpAny_Expr_any (h A E env α s vs st r1 r2 _ room hs hf hi e1 fun s1 α1 pv sm1 x1 i1 rv => hQ s1 α1 .next sm1 (x1.weaken (by simp)) x1.keep0 i1 (hf.step x1)) ?_ (hs' env)
  unfold interactive
  rw [hf.kind]; rfl
theorem SSim.ite {t : Expr} {a b : List Stmt} {pos : Pos} {ft : PT} {fa fb : List PS} (ht : TSim W n sc t ft) (ha : BlSim W n sc a (sSeq fa)) (hb : BlSim W n sc b (sSeq fb)) : SSim W n sc (.If t a b pos) (sIf ft fa fb) := by
  intro A E env α s vs st fl vs' st' Q room hs hf hi he hQ
  obtain ⟨⟨r1, r2⟩, e1, he⟩ := bind_eq he
  refine wpAny_If (ht A E env α s vs st r1 r2 _ room hs hf hi e1 fun s1 α1 sm1 x1 i1 => ?_)
  have fin : ∀ s2 α2 r, same s1 s2 → Ext (frX env) s1.heap α1 s2.heap α2 → KeepS s1.heap α1 s2.heap α2 → W.Inv s2.heap α2 st' → FlowOK W.h₀ s2.heap α2 env vs' r fl → Q r s2 :=
    fun s2 α2 r sm2 x2 K2 i2 fo => hQ s2 α2 r (sm1.trans sm2) ((x1.weaken (by simp)).trans x2) (x1.keep0.trans K2) i2 fo
  cases r1 with
  | true => exact ha A E env α1 s1 vs r2 fl vs' st' Q room hs (hf.step x1) i1 he fin
  | false => exact hb A E env α1 s1 vs r2 fl vs' st' Q room hs (hf.step x1) i1 he fin
theorem SSim.assign {x : Str} {p pos : Pos} {k : Nat} {e : Expr} {f : PE} (hx : x = nm k) (hk : k < nN) (hl : sc.names.lookup x = some .local ∨ sc.names.lookup x = some .cell) (h : ESim W n sc e f) (hsw : ∀ env : Env, env.scope = sc → swapsWith e (some (.Name x p)) pos.line env = pure false) :
    SSim W n sc (.Assign [.Name x p] e pos) (sAssign k f) := by
  intro A E env α s vs st fl vs' st' Q room hs hf hi he hQ
  obtain ⟨⟨r1, r2⟩, e1, he⟩ := map_eq he
  cases he
  subst hx
  refine wpAny_Assign_Name (h A E env α s vs st r1 r2 _ room hs hf hi e1 fun s1 α1 pv sm1 x1 i1 rv => ?_) (hsw env hs)
  refine (hf.step x1).store i1 hk (by subst hs; exact hl) rv fun s2 sm2 f2 i2 x2 K2 => ?_
  exact hQ s2 α1 .next (sm1.trans sm2) ((x1.weaken (by simp)).trans x2.toFr) (x1.keep0.trans K2) i2 f2
theorem FrOK.there {h₀ h : Heap} {α : Al} {env : Env} {vs : Vars} (F : FrOK h₀ h α env vs) : ∀ a ∈ frX env, ∃ o, h.get? a = some o := by
  intro a ha
  rcases List.mem_cons.mp ha with rfl | ha
  · obtain ⟨m, ⟨o, _, _, eo, _⟩, _⟩ := F.loc; exact ⟨o, eo⟩
  · obtain ⟨p, hp, rfl⟩ := List.mem_map.mp ha
    obtain ⟨_, _, _, v, o, eo, _⟩ := F.cel p hp
    exact ⟨o, eo⟩
theorem SSim.forS {e target : Expr} {body : List Stmt} {pos : Pos} {t : Tgt} {fi : PI} {fb : List PS} (hset : ∀ env x, foldedSetIterable e env x = pure x) (hit : ISim W n sc e fi) (ht : TgtIs sc target t) (hb : BlSim W n sc body (sSeq fb)) : SSim W n sc (.For target e body [] pos) (sFor t fi fb) := by
  intro A E env α s vs st fl vs' st' Q room hs hf hi he hQ
  obtain ⟨⟨xs, st1⟩, e1, he⟩ := bind_eq he
  refine wpAny_For (hit A E env α s vs st xs st1 _ room hs hf hi e1 fun s1 α1 I sm1 x1 i1 T hI hIα _ => ?_) (hset env)
  have hI0 := hi.none0 hI
  have hIX : I ∉ frX env := fun m => by obtain ⟨o, e⟩ := hf.there I m; rw [hI] at e; cases e
  refine codeAny_forLoop_any (fun m s' => ∃ k α' vs1 st1, m + k = xs.length ∧ same s s' ∧ Ext (frX env) s.heap α s'.heap α' ∧ KeepS s.heap α s'.heap α' ∧ W.Inv s'.heap α' st1 ∧ FrOK W.h₀ s'.heap α' env vs1 ∧ IterAt s'.heap α' I xs k ∧ I ∉ α'.all ∧ forL t (sSeq fb) (xs.drop k) vs1 st1 = some (fl, vs', st')) ?_ xs.length
    ⟨0, α1, vs, st1, rfl, sm1, x1.weaken (by simp), x1.keep0, i1, hf.step x1, T, hIα, by simpa using he⟩
  rintro m s2 ⟨k, α2, vs2, st2, hm, sm2, x2, K2, i2, f2, T2, hIα2, he2⟩
  have hIhs := Al.off hIα2
  cases m with
  | zero =>
    have hk : k = xs.length := by omega
    subst hk
    rw [List.drop_length] at he2
    cases he2
    refine T2.stop room.hd hIα2 hI0 i2 fun s3 sm3 i3 K3 hk3 => ?_
    exact wpAny_execs_nil (hQ s3 α2 .next (sm2.trans sm3) (x2.lose hI hk3) (K2.trans K3) i3 (f2.lose hIX hk3 K3))
  | succ m =>
    have hlt : k < xs.length := by omega
    rw [List.drop_eq_getElem_cons hlt] at he2
    obtain ⟨vs3, e3, he2⟩ := bind_eq he2
    obtain ⟨⟨r1, r2, r3⟩, e4, he2⟩ := bind_eq he2
    refine T2.next hIhs hI0 i2 (List.getElem?_eq_getElem hlt) fun s3 v sm3 i3 x3 K3 T3 rv => ?_
    have f3 := f2.stepX x3 K3 (fun a ha => by rw [List.mem_singleton.mp ha]; exact hIX)
    refine T3.go ht (assign_tgt ht room.hd hs f3 i3 rv e3 fun s4 sm4 f4 i4 x4 K4 => ?_)
    refine hb A _ env α2 s4 vs3 st2 r1 r2 r3 _ room hs f4 i4 e4 fun s5 α5 r sm5 x5 K5 i5 fo => ?_
    have sm25 := ((sm2.trans sm3).trans sm4).trans sm5
    have K25 := ((K2.trans K3).trans K4).trans K5
    have x25 : Ext (frX env) s.heap α s5.heap α5 := ((x2.transY x3 (by simpa using Or.inr hI)).trans x4).trans x5
    have hk4 : ∀ o, s3.heap.get? I = some o → s5.heap.get? I = some o := fun o e => x5.keep _ _ hIhs hIX (x4.keep _ _ hIhs hIX e)
    obtain ⟨o3, eI3, _⟩ := T3.there
    have T5 : IterAt s5.heap α5 I xs (k + 1) := T3.keep (K4.trans K5) hk4
    have hIα5 : I ∉ α5.all := x5.offAll hIα2 (x4.keep _ _ hIhs hIX eI3)
    cases r1 with
    | next =>
      obtain ⟨rfl, f5⟩ := flow_next fo
      exact ⟨m, Nat.lt_succ_self m, k + 1, α5, r2, r3, by omega, sm25, x25, K25, i5, f5, T5, hIα5, he2⟩
    | ret pv =>
      obtain ⟨v, rfl, rv⟩ := flow_ret fo
      cases he2
      exact hQ s5 α5 (.ret v) sm25 x25 K25 i5 rv
theorem SSim.whileS {t : Expr} {body : List Stmt} {pos : Pos} {ft : PT} {fb : List PS} (ht : TSim W n sc t ft) (hb : BlSim W n sc body (sSeq fb)) : SSim W n sc (.While t body [] pos) (sWhile ft fb) := by
  intro A E env α s vs st fl vs' st' Q room hs hf hi he hQ
  refine wpAny_While (codeAny_whileLoop (fun m s' => ∃ α' vs1 st1, same s s' ∧ Ext (frX env) s.heap α s'.heap α' ∧ KeepS s.heap α s'.heap α' ∧ W.Inv s'.heap α' st1 ∧ FrOK W.h₀ s'.heap α' env vs1 ∧ whileN ft (sSeq fb) m vs1 st1 = some (fl, vs', st')) ?_ 1000
    ⟨α, vs, st, .refl s, .refl _ _ _, .refl _ _, hi, hf, he⟩)
  rintro m s2 ⟨α2, vs2, st2, sm2, x2, K2, i2, f2, he2⟩
  cases m with
  | zero => cases he2
  | succ m =>
    obtain ⟨⟨q1, q2⟩, e3, he2⟩ := bind_eq he2
    refine ht A _ env α2 s2 vs2 st2 q1 q2 _ room hs f2 i2 e3 fun s3 α3 sm3 x3 i3 => ?_
    cases q1 with
    | false =>
      cases he2
      exact wpAny_execs_nil (hQ s3 α3 .next (sm2.trans sm3) (x2.trans (x3.weaken (by simp))) (K2.trans x3.keep0) i3 (f2.step x3))
    | true =>
      dsimp only at he2
      rw [if_pos rfl] at he2
      obtain ⟨⟨r1, r2, r3⟩, e4, he2⟩ := bind_eq he2
      refine hb A _ env α3 s3 vs2 q2 r1 r2 r3 _ room hs (f2.step x3) i3 e4 fun s5 α5 r sm5 x5 K5 i5 fo => ?_
      have sm25 := (sm2.trans sm3).trans sm5
      have K25 := (K2.trans x3.keep0).trans K5
      have x25 : Ext (frX env) s.heap α s5.heap α5 := (x2.trans (x3.weaken (by simp))).trans x5
      cases r1 with
      | next =>
        obtain ⟨rfl, f5⟩ := flow_next fo
        exact ⟨m, Nat.lt_succ_self m, α5, r2, r3, sm25, x25, K25, i5, f5, he2⟩
      | ret pv =>
        obtain ⟨v, rfl, rv⟩ := flow_ret fo
        cases he2
        exact hQ s5 α5 (.ret v) sm25 x25 K25 i5 rv
end Mine
end
section
namespace Mine
open PySem
variable {W : Wd} {n : Nat} {sc : Scope}
theorem SSim.assignUsed {x : Str} {p pos cpos : Pos} {k : Nat} {elt target iter : Expr} {ifs : List Expr} {scope : Scope} {t : Tgt} {fs : List PT} {g : PE} {fi : PI} (hx : x = nm k) (hk : k < nN) (hl : sc.names.lookup x = some .local ∨ sc.names.lookup x = some .cell)
    (hset : ∀ env x, foldedSetIterable iter env x = pure x) (hc : compOK scope sc t.ks = true) (hit : ISim W n sc iter fi) (ht : TgtIs (relabelS scope sc) target t) (htl : ∀ k ∈ t.ks, (relabelS scope sc).names.lookup (nm k) = some .local) (hifs : TSims W n (relabelS scope sc) ifs fs)
    (he : ESim W n (relabelS scope sc) elt g) (hsw : ∀ env : Env, env.scope = sc → swapsWith (.ListComp elt [⟨target, iter, ifs, 0⟩] scope cpos) (some (.Name x p)) pos.line env = pure true) : SSim W n sc (.Assign [.Name x p] (.ListComp elt [⟨target, iter, ifs, 0⟩] scope cpos) pos) (sAssign k (eComp t fi fs g)) := by
  intro A E env α s vs st fl vs' st' Q room hs hf hi he' hQ
  obtain ⟨⟨r1, r2⟩, e1, he'⟩ := map_eq he'
  cases he'
  subst hx
  rw [exec_Assign_Name_used _ _ _ _ (hsw env hs)]
  refine wpAny_bind (wpAny_standAt (wpAny_bind ?_))
  show wpAny _ A (do let _ ← comprehension (.ListComp elt [⟨target, iter, ifs, 0⟩] scope cpos) scope env _ (PySem.newList []) false (eval iter env) (some (PySem.assign (.Name (nm k) p) env))) _ _ s
  refine wpAny_bind (comp1 (use := some (PySem.assign (.Name (nm k) p) env)) (Q := fun _ s' => wpAny (model W.prog W.w) A (pure ()) (fun _ s'' => wpAny (model W.prog W.w) A (pure Flow.next) Q E s'') E s') hset hc hit ht htl hifs he room hs hf hi e1 fun s' α' D C m ys hv sm x i r h1 h2 h3 h4 => ?_)
  subst hv
  show wpAny _ A (PySem.assign (.Name (nm k) p) env (.ref D)) _ _ _
  have hCX : C ∉ frX env := fun m => by obtain ⟨o, e⟩ := hf.there C m; rw [h1] at e; cases e
  refine wpAny_assign_Name ((hf.step x).store i hk (by subst hs; exact hl) (pv := .d (.list ys)) r fun s2 sm2 f2 i2 x2 K2 => ?_)
  have hn2 := h4.at' fun o e => x2.toFr.keep _ o (Al.off h2) hCX e
  refine ⟨m, hn2, fun h' hs' => ?_⟩
  obtain ⟨i3, K3⟩ := Inv.lose (h' := h') i2 h2 (hi.none0 h1) (ns_noSeq hn2) fun a o ha e => hs'.extBut a o ha e
  have f3 := f2.lose (h' := h') hCX (fun a o ha e => hs'.extBut a o ha e) K3
  exact wpAny_pure (wpAny_pure (hQ _ α' .next ((sm.trans sm2).trans ⟨_, _, rfl⟩) (((x.weaken (by simp)).trans x2.toFr).lose h1 fun a o ha e => hs'.extBut a o ha e) ((x.keep0.trans K2).trans K3) i3 f3))
theorem tuple_vals {A : Around} {E : Value → Shared → Prop} {env : Env} {α : Al} {s : Shared} {vs : Vars} {st : St} {es : List Expr} {fs : List PE} {ps : List PV} {st' : St} {k : Nat} {pos : Pos} {Q : Value → Shared → Prop} (h : ESims W n sc es fs) (hst : es.all notStar = true) (hlen : es.length ≤ 1000)
    (room : Room A n) (hs : env.scope = sc) (hf : FrOK W.h₀ s.heap α env vs) (hi : W.Inv s.heap α st) (he : eSeq fs vs st = some (ps, st'))
    (hQ : ∀ s' α' T items, same s s' → Ext [] s.heap α s'.heap α' → W.Inv s'.heap α' st' → s'.heap.get? T = some { cls := .type "tuple", data := .seq items 0 } → RepVs s'.heap α' items.toList ps → Q (.ref T) s') : wpAny (model W.prog W.w) A (eval (.Tuple es k pos) env) Q E s := by
  rw [arm_eval_Tuple, starEach_plain env es hst]
  refine wpAny_bind (wpAny_standAt (wpAny_bind (spliced_sim pos h room hs hf hi he fun s1 α1 pvs sm1 x1 i1 r1 => ?_)))
  unfold newTuple
  have hsz : pvs.length ≤ 1000 := by rw [r1.length, eSeq_length he, ← h.length]; exact hlen
  refine wpAny_newObj_type ?_ (by show (pvs.toArray).size ≤ sizeLine; rw [List.size_toArray, sizeLine_eq]; omega)
  obtain ⟨i2, x2⟩ := i1.grow (h' := s1.heap.push { cls := .type "tuple", data := .seq pvs.toArray }) fun a o e => Heap.get?_push_of_some _ e
  exact hQ _ α1 _ pvs.toArray (sm1.trans ⟨_, _, rfl⟩) (x1.trans x2) i2 (Heap.get?_push_size _ rfl) (r1.ext x2)
theorem updAll_len : ∀ {ks : List Nat} {ps : List PV} {vs vs' : Vars}, updAll vs ks ps = some vs' → ps.length = ks.length
  | [], [], _, _, _ => rfl
  | [], _ :: _, _, _, h => by cases h
  | _ :: _, [], _, _, h => by cases h
  | k :: ks, p :: ps, vs, vs', h => congrArg (· + 1) (updAll_len (ks := ks) (ps := ps) h)
theorem SSim.assignTup {es : List Expr} {fs : List PE} {tg : List Expr} {ks : List Nat} {tk k : Nat} {tp p pos : Pos} (h : ESims W n sc es fs) (hst : es.all notStar = true) (hlen : es.length ≤ 1000) (hn : NamesAre sc tg ks)
    (hw : ∀ env : Env, env.scope = sc → swappedStores [.Tuple tg tk tp] (.Tuple es k p) env = pure none) : SSim W n sc (.Assign [.Tuple tg tk tp] (.Tuple es k p) pos) (sAssignTup ks fs) := by
  intro A E env α s vs st fl vs' st' Q room hs hf hi he hQ
  obtain ⟨⟨ps, st1⟩, e1, he⟩ := bind_eq he
  obtain ⟨vs1, e2, he⟩ := map_eq he
  cases he
  refine PyProof.Rows.Assign_Tuple ?_ rfl (hw env hs)
  refine tuple_vals h hst hlen room hs hf hi e1 fun s1 α1 T items sm1 x1 i1 hT r1 => ?_
  obtain ⟨l1, l2⟩ := hn.each env
  have hl := r1.length
  have hl2 := updAll_len e2
  simp only [Array.length_toList] at hl
  refine wpAny_assign_Tuple room.hd ⟨_, hT, rfl, _, rfl⟩ (by rw [l1, hn.length, hl, hl2]) l2 fun h' he' => ?_
  obtain ⟨i2, x2⟩ := i1.grow (h' := h') fun b o e => he' b o (Nat.ne_of_lt (Heap.lt_size e)) e
  refine assignNames_sim (s := { s1 with heap := h' }) hn hs ((hf.step x1).step x2) i2 (r1.ext x2) e2 fun s3 sm3 f3 i3 x3 K3 => ?_
  exact hQ s3 α1 .next ((sm1.trans ⟨_, _, rfl⟩).trans sm3) (((x1.trans x2).weaken (by simp)).trans x3) ((x1.trans x2).keep0.trans K3) i3 f3
theorem bindNames_sim {A : Around} {E : Value → Shared → Prop} {env : Env} : ∀ {ks : List Nat} {α : Al} {s : Shared} {vs vs' : Vars} {st : St} {vals : List Value} {pvs : List PV} {Q : Unit → Shared → Prop}, (∀ k ∈ ks, k < nN ∧ env.kindOf (nm k) = some .local) → FrOK W.h₀ s.heap α env vs → W.Inv s.heap α st →
    RepVs s.heap α vals pvs → updAll vs ks pvs = some vs' → (∀ s', same s s' → FrOK W.h₀ s'.heap α env vs' → W.Inv s'.heap α st → Ext (frX env) s.heap α s'.heap α → KeepS s.heap α s'.heap α → Q () s') →
    wpAny (model W.prog W.w) A (assignInOrder ((ks.map nm).map fun n => bindName env n) vals) Q E s
  | [], α, s, vs, vs', st, vals, pvs, Q, _, F, I, r, e, hQ => by
    cases r with
    | cons _ _ => cases e
    | nil => cases e; exact wpAny_pure (hQ s (.refl s) F I (.refl _ _ _) (.refl _ _))
  | k :: ks, α, s, vs, vs', st, vals, pvs, Q, hk, F, I, r, e, hQ => by
    cases r with
    | nil => cases e
    | @cons v pv vals pvs r q =>
      show wpAny _ A (do holding vals (bindName env (nm k) v); assignInOrder ((ks.map nm).map fun n => bindName env n) vals) _ _ _
      refine wpAny_bind (wpAny_holding (wpAny_bindName (F.store I (hk k List.mem_cons_self).1 (.inl (hk k List.mem_cons_self).2) r fun s1 sm1 f1 i1 x1 K1 => ?_)))
      exact bindNames_sim (fun j hj => hk j (List.mem_cons_of_mem _ hj)) f1 i1 (q.keep x1.pre K1) e fun s2 sm2 f2 i2 x2 K2 => hQ s2 (sm1.trans sm2) f2 i2 (x1.toFr.trans x2) (K1.trans K2)
theorem RepVs.append {h : Heap} {α : Al} : ∀ {vs ws : List Value} {xs ys : List PV}, RepVs h α vs xs → RepVs h α ws ys → RepVs h α (vs ++ ws) (xs ++ ys)
  | _, _, _, _, .nil, r => r
  | _, _, _, _, .cons a r, q => .cons a (RepVs.append r q)
theorem RepVs.reverse {h : Heap} {α : Al} : ∀ {vs : List Value} {xs : List PV}, RepVs h α vs xs → RepVs h α vs.reverse xs.reverse
  | _, _, .nil => .nil
  | _, _, .cons a r => by rw [List.reverse_cons, List.reverse_cons]; exact (RepVs.reverse r).append (.cons a .nil)
theorem upd_comm {vs : Vars} {a b : Nat} {x y : PV} (h : a ≠ b) : upd (upd vs a x) b y = upd (upd vs b y) a x := by
  funext j
  simp only [upd]
  by_cases h1 : j = a
  · subst h1; simp [h]
  · simp [h1]
theorem updAll_snoc : ∀ {ks : List Nat} {ps : List PV} {vs : Vars} {k : Nat} {p : PV}, ks.length = ps.length → updAll vs (ks ++ [k]) (ps ++ [p]) = (updAll vs ks ps).map fun v => upd v k p
  | [], [], _, _, _, _ => rfl
  | [], _ :: _, _, _, _, h => by cases h
  | _ :: _, [], _, _, _, h => by cases h
  | k :: ks, p :: ps, vs, j, q, h => by
    show updAll (upd vs k p) (ks ++ [j]) (ps ++ [q]) = _
    rw [updAll_snoc (by simpa using h)]; rfl
theorem updAll_swap : ∀ {ks : List Nat} {ps : List PV} {vs : Vars} {k : Nat} {p : PV}, k ∉ ks → updAll (upd vs k p) ks ps = (updAll vs ks ps).map fun v => upd v k p
  | [], [], _, _, _, _ => rfl
  | [], _ :: _, _, _, _, _ => rfl
  | _ :: _, [], _, _, _, _ => rfl
  | j :: ks, q :: ps, vs, k, p, h => by
    have h1 : k ≠ j := fun z => h (z ▸ List.mem_cons_self)
    show updAll (upd (upd vs k p) j q) ks ps = (updAll (upd vs j q) ks ps).map _
    rw [upd_comm h1, updAll_swap fun m => h (List.mem_cons_of_mem _ m)]
theorem updAll_rev : ∀ {ks : List Nat} {ps : List PV} {vs vs' : Vars}, ks.Nodup → updAll vs ks ps = some vs' → updAll vs ks.reverse ps.reverse = some vs'
  | [], [], _, _, _, h => h
  | [], _ :: _, _, _, _, h => by cases h
  | _ :: _, [], _, _, _, h => by cases h
  | k :: ks, p :: ps, vs, vs', hn, h => by
    rw [List.nodup_cons] at hn
    have hl := updAll_len h
    rw [List.reverse_cons, List.reverse_cons, updAll_snoc (by simpa using hl.symm)]
    have h2 : updAll (upd vs k p) ks ps = some vs' := h
    rw [updAll_swap hn.1] at h2
    obtain ⟨v, e1, e2⟩ := map_eq h2
    rw [updAll_rev hn.2 e1]
    exact congrArg some e2
theorem SSim.assignTupSw {es : List Expr} {fs : List PE} {tg : List Expr} {ks : List Nat} {tk k : Nat} {tp p pos : Pos} (h : ESims W n sc es fs) (hst : es.all notStar = true) (hlen : es.length ≤ 1000) (hn : ks.Nodup) (hks : ∀ k ∈ ks, k < nN ∧ sc.names.lookup (nm k) = some .local)
    (hw : ∀ env : Env, env.scope = sc → swappedStores [.Tuple tg tk tp] (.Tuple es k p) env = pure (some (ks.map nm))) : SSim W n sc (.Assign [.Tuple tg tk tp] (.Tuple es k p) pos) (sAssignTup ks fs) := by
  intro A E env α s vs st fl vs' st' Q room hs hf hi he hQ
  obtain ⟨⟨ps, st1⟩, e1, he⟩ := bind_eq he
  obtain ⟨vs1, e2, he⟩ := map_eq he
  cases he
  refine PyProof.Rows.Assign_Tuple_swapped ?_ rfl (hw env hs)
  refine tuple_vals h hst hlen room hs hf hi e1 fun s1 α1 T items sm1 x1 i1 hT r1 => ?_
  have hl := r1.length
  have hl2 := updAll_len e2
  simp only [Array.length_toList] at hl
  dsimp only at e2 hl2
  rw [show (ks.map nm).length = items.size by rw [List.length_map, hl, hl2]]
  refine PyProof.Rows.unpackItems_tuple room.hd ⟨_, hT, rfl, _, rfl⟩ fun h' he' => ?_
  obtain ⟨i2, x2⟩ := i1.grow (h' := h') fun b o e => he' b o (Nat.ne_of_lt (Heap.lt_size e)) e
  rw [← List.map_reverse]
  refine bindNames_sim (s := { s1 with heap := h' }) (fun k hk => ⟨(hks k (by simpa using hk)).1, by show env.scope.names.lookup _ = _; rw [hs]; exact (hks k (by simpa using hk)).2⟩) ((hf.step x1).step x2) i2 ((r1.ext x2).reverse) (updAll_rev hn e2) fun s3 sm3 f3 i3 x3 K3 => ?_
  exact hQ s3 α1 .next ((sm1.trans ⟨_, _, rfl⟩).trans sm3) (((x1.trans x2).weaken (by simp)).trans x3) ((x1.trans x2).keep0.trans K3) i3 f3
theorem SSim.unpack {e : Expr} {f : PE} {tg : List Expr} {ks : List Nat} {tk : Nat} {tp pos : Pos} (h : ESim W n sc e f) (hn : NamesAre sc tg ks) (hw1 : ∀ env, swapsWithSole [.Tuple tg tk tp] e pos.line env = pure false)
    (hw : ∀ env : Env, swappedStores [.Tuple tg tk tp] e env = pure none) : SSim W n sc (.Assign [.Tuple tg tk tp] e pos) (sUnpack ks f) := by
  intro A E env α s vs st fl vs' st' Q room hs hf hi he hQ
  obtain ⟨⟨r1, r2⟩, e1, he⟩ := bind_eq he
  refine PyProof.Rows.Assign_Tuple (h A E env α s vs st r1 r2 _ room hs hf hi e1 fun s1 α1 pv sm1 x1 i1 rv => ?_) (hw1 env) (hw env)
  cases r1 with
  | ref i => cases he
  | d x =>
    cases x with
    | tuple xs =>
      obtain ⟨vs1, e2, he⟩ := map_eq he
      cases he
      refine assign_tuple hn room.hd hs (hf.step x1) i1 rv e2 (by simpa using updAll_len e2) fun s3 sm3 f3 i3 x3 K3 => ?_
      exact hQ s3 α1 .next (sm1.trans sm3) ((x1.weaken (by simp)).trans x3) (x1.keep0.trans K3) i3 f3
    | _ => cases he
end Mine
end
section
namespace Mine
open PySem
variable {W : Wd} {n : Nat} {sc : Scope}
theorem stored_cons_ne {kvs : List (Str × Value)} {a b : Str} {u v : Value} (h : a ≠ b) : stored ((a, u) :: kvs) b v = (a, u) :: stored kvs b v := by
  unfold stored
  by_cases q : (kvs.any fun kv => decide (kv.1 = b)) = true
  · rw [if_pos q, if_pos (by rw [List.any_cons, q, Bool.or_true]), List.map_cons, if_neg h]
  · rw [if_neg q, if_neg (by rw [List.any_cons]; simp [h, q]), List.cons_append]
theorem stored_cons_eq {kvs : List (Str × Value)} {a : Str} {u v : Value} (h : a ∉ kvs.map (·.1)) : stored ((a, u) :: kvs) a v = (a, v) :: kvs := by
  unfold stored
  rw [if_pos (by simp), List.map_cons, if_pos rfl, map_store_of_not_mem kvs a v h]
theorem ents_stored {h : Heap} {α : Al} {k : Nat} (hk : k < nN) {v : Value} {pv : PV} (r : RepV h α v pv) {kvs : List (Str × Value)} {es : List (Nat × PV)} (hn : (kvs.map (·.1)).Nodup) (q : Ents h α kvs es) : Ents h α (stored kvs (nm k) v) (setKey es k pv) := by
  induction q with
  | nil => exact .cons hk r .nil
  | @cons j u pu kvs es hj rj q ih =>
    rw [List.map_cons, List.nodup_cons] at hn
    unfold setKey
    by_cases hjk : j = k
    · subst hjk
      rw [stored_cons_eq hn.1, if_pos rfl]
      exact .cons hk r q
    · rw [stored_cons_ne fun e => hjk (nm_inj hj hk e), if_neg hjk]
      exact .cons hj rj (ih hn.2)
theorem ents_len {h : Heap} {α : Al} : ∀ {kvs : List (Str × Value)} {es : List (Nat × PV)}, Ents h α kvs es → kvs.length = es.length
  | _, _, .nil => rfl
  | _, _, .cons _ _ q => congrArg (· + 1) (ents_len q)
theorem put_dict {prog : Program} {w : World} {o : Obj} {ds : Array DictEntry} {ep : Nat} {kvs : List (Str × Value)} (hc : o.ExactDict) (hd : o.data = .dict ds ep) (hk : KeysOf (strKind prog w) ds) (hp : PySem.Pairs (strKind prog w) ds.toList kvs) (hn : (kvs.map (·.1)).Nodup) (x : Str) (t : Tok) (v : Value) :
    ∃ ds' ep', (Obj.putName x (hashStr w x) (.str x t) v o).data = .dict ds' ep' ∧ (Obj.putName x (hashStr w x) (.str x t) v o).ExactDict ∧ KeysOf (strKind prog w) ds' ∧ PySem.Pairs (strKind prog w) ds'.toList (stored kvs x v) ∧ ((stored kvs x v).map (·.1)).Nodup ∧ ds'.size ≤ ds.size + 1 := by
  obtain ⟨c, d, dt, sl⟩ := o
  dsimp only at hd
  subst hd
  rw [Obj.putName_eq]
  unfold Obj.putNameByArray
  have hfun : (fun e : DictEntry => e.key.isStr x) = fun e => (strKind prog w).is x e.key := by
    funext e; exact PySem.W.isStr_of x e.key
  dsimp only
  rw [hfun]
  have hidx : (ds.findIdx? fun e => (strKind prog w).is x e.key) = kvs.findIdx? fun kv => decide (kv.1 = x) := by
    rw [← hp.findIdx x]; obtain ⟨l⟩ := ds; simp
  cases hi : ds.findIdx? fun e => (strKind prog w).is x e.key with
  | some i =>
    refine ⟨_, _, rfl, hc, hk.modify _ _, ?_, ?_, by rw [Array.size_modify]; exact Nat.le_succ _⟩
    · rw [stored, if_pos (any_of_findIdx_some (hidx ▸ hi))]
      have hl : (ds.toList.findIdx? fun e => (strKind prog w).is x e.key) = some i := by rw [← hi]; obtain ⟨l⟩ := ds; simp
      have := hp.modify hn hl v
      obtain ⟨l⟩ := ds
      simpa using this
    · rw [stored, if_pos (any_of_findIdx_some (hidx ▸ hi)), keys_map_store]; exact hn
  | none =>
    have hnot : x ∉ kvs.map (·.1) := not_mem_of_findIdx_none (hidx ▸ hi)
    have hany : ¬ (kvs.any fun kv => decide (kv.1 = x)) = true := by
      rw [List.any_eq_true]; rintro ⟨kv, hkv, he⟩
      exact hnot (List.mem_map.mpr ⟨kv, hkv, of_decide_eq_true he⟩)
    refine ⟨_, _, rfl, hc, hk.push (strKind_is prog w x t) _, ?_, ?_, by rw [Array.size_push]; exact Nat.le_refl _⟩
    · rw [stored, if_neg hany]
      have := hp.append (strKind_is prog w x t) (hashStr w x) v
      obtain ⟨l⟩ := ds
      simpa using this
    · rw [stored, if_neg hany, List.map_append, List.nodup_append]
      refine ⟨hn, by simp, ?_⟩
      intro a ha b hb
      simp only [List.map_cons, List.map_nil, List.mem_singleton] at hb
      subst hb
      exact fun e => hnot (e ▸ ha)
theorem looks_clsHas {K : PySem.W.Frag} {C : Addr} (h : PySem.W.hasDictIn K C = true) : (PySem.W.clsIn K C).any (·.hasDict) = true := h
theorem set_attr {A : Around} {E : Value → Shared → Prop} {s : Shared} {x ad : Addr} {o : Obj} {ds : Array DictEntry} {ep : Nat} {kvs : List (Str × Value)} {name : Str} {v : Value} {Q : Unit → Shared → Prop} (co : ClsOk W) (X : W.K.In s.heap) (hx : s.heap.get? x = some { cls := .ref W.C, dict := some ad }) (ho : s.heap.get? ad = some o) (hc : o.ExactDict) (hd : o.data = .dict ds ep) (hk : KeysOf (strKind W.prog W.w) ds) (hp : PySem.Pairs (strKind W.prog W.w) ds.toList kvs) (hn : (kvs.map (·.1)).Nodup)
    (I : PySem.W.InstAt s.heap x { cls := .ref W.C, dict := some ad } W.C (some o)) (hno : PySem.W.findIn W.K (.ref W.C) name = some none) (hl : kvs.length ≤ 1000000)
    (hQ : ∀ h', h'.DictOf (strKind W.prog W.w) ad (stored kvs name v) → Heap.SameBut ad s.heap h' → ∀ tk, Q () { s with heap := h', toks := tk }) : wpAny (model W.prog W.w) A (setAttr (.ref x) name v) Q E s := by
  refine PySem.W.set_plain X I co.sa ?_
  have ht : PySem.W.takerIn W.K W.C name = some none := by unfold PySem.W.takerIn; rw [hno]; rfl
  refine PySem.W.osa_open (s := { s with toks := s.toks + 1 }) X I co.po ht fun b => ?_
  have hds : ds.size = kvs.length := by rw [← hp.length, Array.length_toList]
  have hcls := looks_clsHas co.hd
  cases hcd : PySem.W.clsIn W.K W.C with
  | none => rw [hcd] at hcls; cases hcls
  | some cd =>
    rw [hcd] at hcls
    have hd' : cd.hasDict = true := hcls
    refine wpAny_bind (wpAny_pure (wpAny_bind (wpAny_bind (wpAny_loadPart hx (wpAny_bind (PySem.W.Looks.here (s := { s with toks := s.toks + 1 }) (PySem.W.looks_clsIn X hcd) ?_))))))
    rw [hd']
    refine wpAny_pure (a := some ad) (wpAny_bind (wpAny_pure (wpAny_bind ?_)))
    unfold nsSet
    refine wpAny_bind (wpAny_bind (wpAny_askSetting (wpAny_pure (wpAny_bind (wpAny_mkText (wpAny_bind (wpAny_loadPart ho ?_)))))))
    rw [hd]
    dsimp only
    have c : (!ds.any (·.key.isStr name) && ds.any (·.refKey)) = false := by
      have q : (ds.any fun x => x.refKey) = false := by rw [← Array.any_toList]; exact pairs_noRef hp
      rw [q, Bool.and_false]
    rw [aRefKeyMayBeTheName_at, c]
    refine wpAny_updatePart ho ?_
    obtain ⟨ds', ep', q1, q2, q3, q4, q5, q6⟩ := put_dict hc hd hk hp hn name (s.toks + 1) v
    have hfr : (Obj.putName name (hashStr W.w name) (.str name (s.toks + 1)) v o).isFreed = false := Obj.isFreed_of_dict q1
    have ho' := Heap.get?_update_self (h := s.heap) (Obj.putName name (hashStr W.w name) (.str name (s.toks + 1)) v) ho hfr
    refine wpAny_bind (wpAny_lookBehind ho' (by rw [q1]; exact pastItsLine_dict (by rw [sizeLine_eq]; omega)) ?_)
    exact wpAny_pure (hQ _ ⟨_, ds', ep', ho', q2, q1, q3, q4, q5⟩ (Heap.SameBut.update ..) _)
end Mine
end
section
namespace Mine
open PySem
variable {W : Wd} {n : Nat} {sc : Scope}
theorem mapSeq_plain (f : Array Value → Array Value) (vs : Array Value) (k : Nat) : ∃ k', Obj.mapSeq f { cls := .type "list", data := .seq vs k } = { cls := .type "list", data := .seq (f vs) k' } := ⟨_, rfl⟩
theorem setItem_at {prog : Program} {w : World} {A : Around} {E : Value → Shared → Prop} {s : Shared} {l : Addr} {items : Array Value} {kn : Nat} {k : Int} {j : Nat} {t : Tok} {v : Value} {Q : Unit → Shared → Prop} (ho : s.heap.get? l = some { cls := .type "list", data := .seq items kn }) (hi : idx items.size k = some j) (h1 : -(2 ^ 40) ≤ k) (h2 : k ≤ 2 ^ 40) (hsz : items.size ≤ 1000000)
    (hQ : ∀ h' kn', h'.get? l = some { cls := .type "list", data := .seq (items.setIfInBounds j v) kn' } → Heap.SameBut l s.heap h' → Q () { s with heap := h' }) : wpAny (model prog w) A (setItem (.ref l) (.int k t) v) Q E s := by
  have hT : s.TypeIs (.ref l) "list" := ⟨_, ho, rfl⟩
  obtain ⟨kn', em⟩ := mapSeq_plain (·.setIfInBounds j v) items kn
  have hfin : (s.heap.update l (Obj.mapSeq (·.setIfInBounds j v))).get? l = some { cls := .type "list", data := .seq (items.setIfInBounds j v) kn' } := by
    rw [Heap.get?_update_self _ ho (by rw [em]; rfl), em]
  unfold setItem
  try with_reducible refine wpAny_holding ?_
  first | refine wpAny_bind (wpAny_pure ?_) | skip
  refine wpAny_bind (wpAny_sequenceKey hT (by decide) ?_)
  refine wpAny_bind (wpAny_callSpecial?_slot (name := Str.ofString "__setitem__") hT slot_list_setitem
    (wpAny_call_entry slot_list_setitem hT entry_list_setitem ?_ (args_list_setitem _ _ _)))
  show wpAny _ _ (Builtin.List.listSubscript? (.int k t) >>= _) _ _ s
  rcases idx_seq hi with ⟨q1, q2, q3⟩ | ⟨q1, q2, q3⟩
  · refine wpAny_bind (wpAny_listSubscript_int (fitsIndex_of q1 (by omega)) ?_)
    have hx' : items[j]? = some items[j] := Array.getElem?_eq_getElem q3
    obtain ⟨j', rfl⟩ := Int.eq_ofNat_of_zero_le q1
    have : j' = j := by simpa using q2.symm
    subst this
    show wpAny _ _ ((seqItemAt l j' >>= fun r => pure (r.map (j', ·))) >>= _) _ _ s
    refine wpAny_bind (wpAny_bind (wpAny_seqItemAt ho rfl (wpAny_pure ?_)))
    rw [hx']
    show wpAny _ _ (setSeqItemAt l j' v >>= _) _ _ s
    refine wpAny_bind (wpAny_setSeqItemAt ho rfl ?_)
    first
      | exact wpAny_bind (wpAny_pure (wpAny_pure ⟨.none, rfl, wpAny_pure (hQ _ _ hfin (Heap.SameBut.update ..))⟩))
      | exact wpAny_pure ⟨.none, rfl, wpAny_pure (hQ _ _ hfin (Heap.SameBut.update ..))⟩
  · refine wpAny_bind (wpAny_listSubscript_int (fitsIndex_neg q1 (by omega)) ?_)
    have hidx := seqIndex_idx hi
    have hlt : j < items.size := by omega
    have hx' : items[j]? = some items[j] := Array.getElem?_eq_getElem hlt
    obtain ⟨j', rfl⟩ : ∃ j' : Nat, k = Int.negSucc j' := by
      cases k with
      | ofNat n => exact absurd q1 (Int.not_lt.mpr (Int.ofNat_nonneg n))
      | negSucc n => exact ⟨n, rfl⟩
    show wpAny _ _ ((Builtin.List.listItems (.ref l) >>= fun xs => pure ((seqIndex? (Int.negSucc j') xs.size).bind fun i => xs[i]?.map (i, ·))) >>= _) _ _ s
    refine wpAny_bind (wpAny_bind ?_)
    show wpAny _ _ (seqItems? (.ref l) >>= _) _ _ s
    refine wpAny_bind (wpAny_seqItems ho rfl (wpAny_pure (wpAny_pure ?_)))
    rw [hidx]
    simp only [Option.bind_some, hx', Option.map_some]
    show wpAny _ _ (setSeqItemAt l j v >>= _) _ _ s
    refine wpAny_bind (wpAny_setSeqItemAt ho rfl ?_)
    first
      | exact wpAny_bind (wpAny_pure (wpAny_pure ⟨.none, rfl, wpAny_pure (hQ _ _ hfin (Heap.SameBut.update ..))⟩))
      | exact wpAny_pure ⟨.none, rfl, wpAny_pure (hQ _ _ hfin (Heap.SameBut.update ..))⟩
theorem SSim.attrSet {o e : Expr} {attr : Str} {tpos pos : Pos} {fo fe : PE} (k : Nat) (ok : W.Ok) (co : ClsOk W) (ho : ESim W n sc o fo) (h : ESim W n sc e fe) (ha : attr = nm k) (hk : k < nN) (hno : PySem.W.findIn W.K (.ref W.C) attr = some none)
    (hsw : ∀ env, swapsWith e (some (.Attribute o attr tpos)) pos.line env = pure false) : SSim W n sc (.Assign [.Attribute o attr tpos] e pos) (sAttrSet fo k fe) := by
  intro A E env α s vs st fl vs' st' Q room hs hf hi he hQ
  obtain ⟨⟨r1, r2⟩, e1, he⟩ := bind_eq he
  obtain ⟨⟨q1, q2⟩, e2, he⟩ := bind_eq he
  obtain ⟨⟨j, es⟩, e3, he⟩ := bind_eq he
  dsimp only at he
  split at he
  · rename_i hz
    cases he
    subst ha
    refine plainObj_wpAny_Assign_Attribute (h A E env α s vs st r1 r2 _ room hs hf hi e1 fun s1 α1 v sm1 x1 i1 rv => ?_) (hsw env)
    refine ho A E env α1 s1 vs r2 q1 q2 _ room hs (hf.step x1) i1 e2 fun s2 α2 ov sm2 x2 i2 ro => ?_
    obtain ⟨a, ad, kvs, ob, ds, ep, rfl, g1, g2, g3, g4, g5, g6, g7, g8, g9, g10, I⟩ := attrs_of i2 ro e3
    refine set_attr co (fun b ob e => i2.base b ob (ok.kin b ob e)) g3 g4 g5 g6 g7 g8 g9 I hno (by rw [ents_len g10]; exact szOk_iff hz) fun h' hd hs' tk => ?_
    obtain ⟨oo, _, _, eo, _⟩ := id hd
    have rv2 := rv.ext x2
    obtain ⟨i3, x3⟩ := i2.change (h' := h') (o := .sdict (setKey es k r1)) g1 (fun b ob hb e => hs'.extBut b ob hb e) ⟨oo, eo⟩ fun x K => ⟨_, hd, ents_stored hk (rv2.keep x.pre K) g9 (g10.keep x.pre K)⟩
    have x13 := (x1.trans x2).trans x3
    exact hQ _ α2 .next ((sm1.trans sm2).trans ⟨_, _, rfl⟩) (x13.weaken (by simp)) x13.keep0 i3 (hf.step x13)
  · cases he
theorem putKey_sim {A : Around} {E : Value → Shared → Prop} {α : Al} {s : Shared} {st st' : St} {d v : Value} {pd pv : PV} {k : Nat} {t : Tok} {Q : Unit → Shared → Prop} (hi : W.Inv s.heap α st) (hk : k < nN) (rd : RepV s.heap α d pd) (rv : RepV s.heap α v pv) (he : putKey st pd k pv = some st')
    (hQ : ∀ s', same s s' → Ext [] s.heap α s'.heap α → W.Inv s'.heap α st' → Q () s') : wpAny (model W.prog W.w) A (setItem d (.str (nm k) t) v) Q E s := by
  unfold putKey at he
  split at he
  · rename_i i
    split at he
    · rename_i es g
      split at he
      · rename_i hz
        cases he
        obtain ⟨hz1, hz2⟩ := Bool.and_eq_true_iff.mp hz
        obtain ⟨a, ea, rfl⟩ := rd
        obtain ⟨kvs, hd, en⟩ := hi.objs i a _ ea g
        have hn : (kvs.map (·.1)).Nodup := by obtain ⟨_, _, _, _, _, _, _, _, hn⟩ := hd; exact hn
        refine wpAny_setItem_pairs (strKind_is W.prog W.w (nm k) t) hd (fun h' hd' hs' => ?_) (sz_line (by rw [ents_len en]; exact szOk_iff hz2))
        obtain ⟨oo, _, _, eo, _⟩ := id hd'
        obtain ⟨i3, x3⟩ := hi.change (h' := h') (o := .sdict (setKey es k pv)) ea (fun b ob hb e => hs'.extBut b ob hb e) ⟨oo, eo⟩ fun x K => ⟨_, hd', ents_stored hk (rv.keep x.pre K) hn (en.keep x.pre K)⟩
        exact hQ _ ⟨_, _, rfl⟩ x3 i3
      · cases he
    · cases he
  · cases he
theorem SSim.keySet {o e : Expr} {key : Str} {kk : Nat} {kp tpos pos : Pos} {fo fe : PE} (k : Nat) (ho : ESim W n sc o fo) (h : ESim W n sc e fe) (ha : key = nm k) (hk : k < nN)
    (hsw : ∀ env, swapsWith e (some (.Subscript o (.Constant (.str key) kk kp) tpos)) pos.line env = pure false) : SSim W n sc (.Assign [.Subscript o (.Constant (.str key) kk kp) tpos] e pos) (sKeySet fo k fe) := by
  intro A E env α s vs st fl vs' st' Q room hs hf hi he hQ
  obtain ⟨⟨r1, r2⟩, e1, he⟩ := bind_eq he
  obtain ⟨⟨q1, q2⟩, e2, he⟩ := bind_eq he
  obtain ⟨st3, e3, he⟩ := map_eq he
  cases he
  subst ha
  refine wpAny_Assign_Subscript (h A E env α s vs st r1 r2 _ room hs hf hi e1 fun s1 α1 v sm1 x1 i1 rv => ?_) (hsw env)
  refine ho A E env α1 s1 vs r2 q1 q2 _ room hs (hf.step x1) i1 e2 fun s2 α2 ov sm2 x2 i2 ro => ?_
  refine Calls.Constant_str ?_
  refine putKey_sim (s := { s2 with toks := s2.toks + 1 }) i2 hk ro (rv.ext x2) e3 fun s3 sm3 x3 i3 => ?_
  have x13 := (x1.trans x2).trans x3
  exact hQ s3 α2 .next ((sm1.trans sm2).trans (same.trans ⟨_, _, rfl⟩ sm3)) (x13.weaken (by simp)) x13.keep0 i3 (hf.step x13)
theorem assign_key {A : Around} {E : Value → Shared → Prop} {env : Env} {α : Al} {s : Shared} {vs : Vars} {st st1 st2 : St} {o : Expr} {k : Nat} {kk : Nat} {kp tpos : Pos} {fo : PE} {v : Value} {pv q1 : PV} {Q : Unit → Shared → Prop} (ho : ESim W n sc o fo) (hk : k < nN) (room : Room A n) (hs : env.scope = sc) (hf : FrOK W.h₀ s.heap α env vs) (hi : W.Inv s.heap α st)
    (rv : RepV s.heap α v pv) (e2 : fo vs st = some (q1, st1)) (e3 : putKey st1 q1 k pv = some st2) (hQ : ∀ s' α', same s s' → Ext [] s.heap α s'.heap α' → W.Inv s'.heap α' st2 → Q () s') : wpAny (model W.prog W.w) A (assign (.Subscript o (.Constant (.str (nm k)) kk kp) tpos) env v) Q E s := by
  rw [assign_Subscript]
  refine wpAny_bind (wpAny_holding (ho A E env α s vs st q1 st1 _ room hs hf hi e2 fun s2 α2 ov sm2 x2 i2 ro => ?_))
  refine wpAny_bind (wpAny_holding (Calls.Constant_str ?_))
  refine wpAny_bind (wpAny_standAt (wpAny_bind (wpAny_holding ?_)))
  refine putKey_sim (s := { s2 with toks := s2.toks + 1 }) i2 hk ro (rv.ext x2) e3 fun s3 sm3 x3 i3 => ?_
  exact wpAny_release (hQ s3 α2 (sm2.trans (same.trans ⟨_, _, rfl⟩ sm3)) (x2.trans x3) i3)
theorem SSim.keySet2 {o o2 e : Expr} {key key2 : Str} {kk kk2 tk : Nat} {kp kp2 sp sp2 tpos pos : Pos} {fo fo2 fe : PE} (k k2 : Nat) (ho : ESim W n sc o fo) (ho2 : ESim W n sc o2 fo2) (h : ESim W n sc e fe) (ha : key = nm k) (ha2 : key2 = nm k2) (hk : k < nN) (hk2 : k2 < nN)
    (hw1 : ∀ env, swapsWithSole [.Tuple [.Subscript o (.Constant (.str key) kk kp) sp, .Subscript o2 (.Constant (.str key2) kk2 kp2) sp2] tk tpos] e pos.line env = pure false)
    (hw : ∀ env : Env, swappedStores [.Tuple [.Subscript o (.Constant (.str key) kk kp) sp, .Subscript o2 (.Constant (.str key2) kk2 kp2) sp2] tk tpos] e env = pure none) :
    SSim W n sc (.Assign [.Tuple [.Subscript o (.Constant (.str key) kk kp) sp, .Subscript o2 (.Constant (.str key2) kk2 kp2) sp2] tk tpos] e pos) (sKeySet2 fo k fo2 k2 fe) := by
  intro A E env α s vs st fl vs' st' Q room hs hf hi he hQ
  obtain ⟨⟨r1, r2⟩, e1, he⟩ := bind_eq he
  subst ha ha2
  dsimp only at he
  split at he
  · rename_i x y
    obtain ⟨⟨q1, st1⟩, e2, he⟩ := bind_eq he
    obtain ⟨st2, e3, he⟩ := bind_eq he
    obtain ⟨⟨q2, st3⟩, e4, he⟩ := bind_eq he
    obtain ⟨st4, e5, he⟩ := map_eq he
    cases he
    refine PyProof.Rows.Assign_Tuple (h A E env α s vs st _ r2 _ room hs hf hi e1 fun s1 α1 v sm1 x1 i1 rv => ?_) (hw1 env) (hw env)
    cases rv with
    | @tuple T items kn _ hT hoff rs =>
      have hl := rs.length
      simp only [Array.length_toList] at hl
      refine wpAny_assign_Tuple room.hd ⟨_, hT, rfl, _, rfl⟩ (by rw [hl]; rfl) rfl fun h' he' => ?_
      obtain ⟨i2, x2⟩ := i1.grow (h' := h') fun b o e => he' b o (Nat.ne_of_lt (Heap.lt_size e)) e
      generalize items.toList = its at rs
      cases rs with
      | @cons a its _ _ ra rs =>
        cases rs with
        | @cons b its _ _ rb rs =>
          cases rs
          show wpAny _ A (do holding [b] (PySem.assign (.Subscript o (.Constant (.str (nm k)) kk kp) sp) env a); (do holding [] (PySem.assign (.Subscript o2 (.Constant (.str (nm k2)) kk2 kp2) sp2) env b); pure ())) _ _ _
          have ra' : RepV h' α1 a (.d x) := RepV.ext (p := .d x) x2 ra
          have rb' : RepV h' α1 b (.d y) := RepV.ext (p := .d y) x2 rb
          refine wpAny_bind (wpAny_holding (assign_key (s := { s1 with heap := h' }) ho hk room hs ((hf.step x1).step x2) i2 ra' e2 e3 fun s3 α3 sm3 x3 i3 => ?_))
          refine wpAny_bind (wpAny_holding (assign_key ho2 hk2 room hs (((hf.step x1).step x2).step x3) i3 (rb'.ext x3) e4 e5 fun s4 α4 sm4 x4 i4 => wpAny_pure ?_))
          have x14 := ((x1.trans x2).trans x3).trans x4
          exact hQ s4 α4 .next (((sm1.trans ⟨_, _, rfl⟩).trans sm3).trans sm4) (x14.weaken (by simp)) x14.keep0 i4 (hf.step x14)
  · cases he
theorem stored_keys {K : Type} [DecidableEq K] {kvs : List (K × Value)} {k : K} {v : Value} : (stored kvs k v).map (·.1) = if k ∈ kvs.map (·.1) then kvs.map (·.1) else kvs.map (·.1) ++ [k] := by
  unfold stored
  by_cases q : (kvs.any fun kv => decide (kv.1 = k)) = true
  · have hm : k ∈ kvs.map (·.1) := by
      obtain ⟨kv, h1, h2⟩ := List.any_eq_true.mp q
      exact List.mem_map.mpr ⟨kv, h1, of_decide_eq_true h2⟩
    rw [if_pos q, if_pos hm, keys_map_store]
  · have hm : k ∉ kvs.map (·.1) := fun hm => q (by
      obtain ⟨kv, h1, h2⟩ := List.mem_map.mp hm
      exact List.any_eq_true.mpr ⟨kv, h1, decide_eq_true h2⟩)
    rw [if_neg q, if_neg hm, List.map_append]; rfl
theorem SSim.itemSet {o i e : Expr} {tpos pos : Pos} {fo fi fe : PE} (ho : ESim W n sc o fo) (hix : ESim W n sc i fi) (h : ESim W n sc e fe) (hsw : ∀ env, swapsWith e (some (.Subscript o i tpos)) pos.line env = pure false) : SSim W n sc (.Assign [.Subscript o i tpos] e pos) (sItemSet fo fi fe) := by
  intro A E env α s vs st fl vs' st' Q room hs hf hi he hQ
  obtain ⟨⟨r1, r2⟩, e1, w1⟩ := bind_eq he
  obtain ⟨⟨q1, q2⟩, e2, w2⟩ := bind_eq w1
  obtain ⟨⟨z1, z2⟩, e3, w3⟩ := bind_eq w2
  clear he w1 w2
  have he := w3
  clear w3
  refine wpAny_Assign_Subscript (h A E env α s vs st r1 r2 _ room hs hf hi e1 fun s1 α1 v sm1 x1 i1 rv => ?_) (hsw env)
  refine ho A E env α1 s1 vs r2 q1 q2 _ room hs (hf.step x1) i1 e2 fun s2 α2 ov sm2 x2 i2 ro => ?_
  refine hix A E env α2 s2 vs q2 z1 z2 _ room hs ((hf.step x1).step x2) i2 e3 fun s3 α3 iv sm3 x3 i3 ri => ?_
  have fin : ∀ st4 s4, same s3 s4 → Ext [] s3.heap α3 s4.heap α3 → W.Inv s4.heap α3 st4 → (PFlow.next, vs, st4) = (fl, vs', st') → Q .next s4 := fun st4 s4 sm4 x4 i4 e => by
    cases e
    have x14 := ((x1.trans x2).trans x3).trans x4
    exact hQ s4 α3 .next (((sm1.trans sm2).trans sm3).trans sm4) (x14.weaken (by simp)) x14.keep0 i4 (hf.step x14)
  have ro3 := ro.ext x3
  have rv3 := (rv.ext x2).ext x3
  dsimp only at he
  split at he
  · rename_i hd m
    obtain ⟨a, ea, rfl⟩ := ro3
    cases ri
    split at he
    · rename_i xs y g
      split at he
      · rename_i hz
        obtain ⟨w1, w2⟩ := Bool.and_eq_true_iff.mp hz
        obtain ⟨j, e5, he⟩ := map_eq he
        obtain ⟨us, kn, hob, rs⟩ := i3.objs hd a _ ea g
        have hl := rs.length
        simp only [Array.length_toList] at hl
        have b1 := small_iff w1
        refine setItem_at hob (by rw [hl]; exact e5) b1.1 b1.2 (by rw [hl]; exact szOk_iff w2) fun h' kn' hob' hs' => ?_
        obtain ⟨i4, x4⟩ := i3.change (h' := h') (o := .list (xs.set j y)) ea (fun b ob hb e => hs'.extBut b ob hb e) ⟨_, hob'⟩ fun x K => ⟨_, _, hob', by rw [Array.toList_setIfInBounds]; exact (Reps.keep K rs).set j (Rep.keep K rv3)⟩
        exact fin _ _ ⟨_, _, rfl⟩ x4 i4 he
      · cases he
    · rename_i ks y g
      split at he
      · rename_i hz
        obtain ⟨w1, w2⟩ := Bool.and_eq_true_iff.mp hz
        obtain ⟨kvs, hdict, hks⟩ := i3.objs hd a _ ea g
        refine wpAny_setItem_pairs (knd := intKind W.prog W.w) (k := m) (by simp [intKind, Value.isInt]) hdict (fun h' hd' hs' => ?_) (sz_line (by have := szOk_iff w2; rw [← hks, List.length_map] at this; exact this))
        obtain ⟨oo, _, _, eo, _⟩ := id hd'
        obtain ⟨i4, x4⟩ := i3.change (h' := h') (o := .idict (if ks.contains m then ks else ks ++ [m])) ea (fun b ob hb e => hs'.extBut b ob hb e) ⟨oo, eo⟩ fun x K => ⟨_, hd', by rw [stored_keys, hks]; simp⟩
        exact fin _ _ ⟨_, _, rfl⟩ x4 i4 (by cases he; rfl)
      · cases he
    · cases he
  · cases he
end Mine
end
section
namespace Mine
open PySem
variable {W : Wd} {n : Nat} {sc : Scope}
structure FnIs (W : Wd) (f : Addr) (ps : List Nat) (sc : Scope) (body : List Stmt) : Prop where
  obj : ∃ o fd, W.h₀.get? f = some o ∧ o.data = .func fd ∧ fd.scope = sc ∧ fd.body = .stmts body ∧ fd.closure = [] ∧ fd.globals = mainGlobals ∧ fd.builtins = builtinsNs ∧ W.h₀.CodeRec fd.code fd.qualname ∧ ∀ vals : List Value, vals.length = ps.length → bindArgs fd ⟨vals, []⟩ = pure ((ps.map nm).zip vals)
  co : sc.isCoroutine = false
  gen : sc.isGenerator = false
  kind : sc.kind = .function
  nodup : ps.Nodup
  pk : ∀ k ∈ ps, k < nN ∧ (sc.names.lookup (nm k) = some .local ∨ sc.names.lookup (nm k) = some .cell)
  cnames : ((cellsFrom 0 sc.names []).map (·.1)).Nodup
theorem cellsFrom_names : ∀ (names : List (Str × NameKind)) (a b : Nat) (acc acc' : List (Str × Addr)), acc.map (·.1) = acc'.map (·.1) → (cellsFrom a names acc).map (·.1) = (cellsFrom b names acc').map (·.1)
  | [], _, _, _, _, h => h
  | (x, k) :: r, a, b, acc, acc', h => by
    unfold cellsFrom
    split
    · exact cellsFrom_names r _ _ _ _ (by simp [h])
    · exact cellsFrom_names r _ _ _ _ h
theorem cellsFrom_acc : ∀ (names : List (Str × NameKind)) (a : Nat) (acc : List (Str × Addr)) (p : Str × Addr), p ∈ acc → p ∈ cellsFrom a names acc
  | [], _, _, _, h => h
  | (x, k) :: r, a, acc, p, h => by
    unfold cellsFrom
    split
    · exact cellsFrom_acc r _ _ p (List.mem_cons_of_mem _ h)
    · exact cellsFrom_acc r _ _ p h
theorem cellsFrom_has : ∀ (names : List (Str × NameKind)) (a : Nat) (acc : List (Str × Addr)) (x : Str), (x, NameKind.cell) ∈ names → ∃ c, (x, c) ∈ cellsFrom a names acc
  | (y, k) :: r, a, acc, x, h => by
    unfold cellsFrom
    rcases List.mem_cons.mp h with e | h
    · cases e
      rw [if_pos (by rfl)]
      exact ⟨a, cellsFrom_acc r _ _ _ List.mem_cons_self⟩
    · split
      · exact cellsFrom_has r _ _ x h
      · exact cellsFrom_has r _ _ x h
theorem lookup_nodup : ∀ {l : List (Str × Addr)} {x : Str} {a : Addr}, (l.map (·.1)).Nodup → (x, a) ∈ l → l.lookup x = some a
  | (y, b) :: r, x, a, hn, h => by
    rw [List.map_cons, List.nodup_cons] at hn
    rw [List.lookup_cons]
    rcases List.mem_cons.mp h with e | h
    · cases e; simp
    · have hne : x ≠ y := fun z => hn.1 (z ▸ List.mem_map.mpr ⟨_, h, rfl⟩)
      rw [show (x == y) = false from beq_eq_false_iff_ne.mpr hne]
      exact lookup_nodup hn.2 h
theorem bindL_other {kf : Str → Option NameKind} : ∀ {ps : List Nat} {vals : List Value} {m : Str → Option Value} {k : Nat}, k < nN → (∀ p ∈ ps, p < nN) → k ∉ ps → bindL kf ((ps.map nm).zip vals) m (nm k) = m (nm k)
  | [], _, _, _, _, _, _ => by simp [bindL]
  | _ :: _, [], _, _, _, _, _ => by simp [bindL]
  | p :: ps, v :: vals, m, k, hk, hp, hn => by
    show bindL kf ((ps.map nm).zip vals) _ (nm k) = _
    rw [bindL_other hk (fun q hq => hp q (List.mem_cons_of_mem _ hq)) (fun z => hn (List.mem_cons_of_mem _ z))]
    split
    · exact if_neg fun e => hn (nm_inj hk (hp p List.mem_cons_self) e ▸ List.mem_cons_self)
    · rfl
theorem bindC_other {kf : Str → Option NameKind} : ∀ {ps : List Nat} {vals : List Value} {m : Str → Option Value} {k : Nat}, k < nN → (∀ p ∈ ps, p < nN) → k ∉ ps → bindC kf ((ps.map nm).zip vals) m (nm k) = m (nm k)
  | [], _, _, _, _, _, _ => by simp [bindC]
  | _ :: _, [], _, _, _, _, _ => by simp [bindC]
  | p :: ps, v :: vals, m, k, hk, hp, hn => by
    show bindC kf ((ps.map nm).zip vals) _ (nm k) = _
    rw [bindC_other hk (fun q hq => hp q (List.mem_cons_of_mem _ hq)) (fun z => hn (List.mem_cons_of_mem _ z))]
    split
    · rfl
    · exact if_neg fun e => hn (nm_inj hk (hp p List.mem_cons_self) e ▸ List.mem_cons_self)
theorem bindL_spec {kf : Str → Option NameKind} {h : Heap} {α : Al} : ∀ {ps : List Nat} {args : List PV} {vals : List Value} {vs : Vars} {m : Str → Option Value}, ps.Nodup → (∀ p ∈ ps, p < nN) → RepVs h α vals args → bindP ps args = some vs → ∀ k pv, k < nN → vs k = some pv → kf (nm k) = some .local → ∃ v, bindL kf ((ps.map nm).zip vals) m (nm k) = some v ∧ RepV h α v pv
  | [], _, _, vs, m, _, _, .nil, e, k, pv, _, e2, _ => by cases e; cases e2
  | [], _, _, vs, m, _, _, .cons _ _, e, k, pv, _, e2, _ => by cases e
  | _ :: _, _, _, vs, m, _, _, .nil, e, k, pv, _, e2, _ => by cases e
  | p :: ps, _, _, vs, m, hn, hp, .cons (v := v) (p := pv0) (vs := vals) (ps := args) r q, e, k, pv, hk, e2, hl => by
    rw [List.nodup_cons] at hn
    obtain ⟨vs', e3, e4⟩ := map_eq e
    subst e4
    by_cases hkp : k = p
    · subst hkp
      have : pv0 = pv := by simpa [upd] using e2
      subst this
      refine ⟨v, ?_, r⟩
      show bindL kf ((ps.map nm).zip vals) _ (nm k) = _
      rw [bindL_other hk (fun q hq => hp q (List.mem_cons_of_mem _ hq)) hn.1, if_pos hl, if_pos rfl]
    · have e2' : vs' k = some pv := by simpa [upd, hkp] using e2
      exact bindL_spec hn.2 (fun q hq => hp q (List.mem_cons_of_mem _ hq)) q e3 k pv hk e2' hl
theorem bindC_spec {kf : Str → Option NameKind} {h : Heap} {α : Al} : ∀ {ps : List Nat} {args : List PV} {vals : List Value} {vs : Vars} {m : Str → Option Value}, ps.Nodup → (∀ p ∈ ps, p < nN) → RepVs h α vals args → bindP ps args = some vs → ∀ k pv, k < nN → vs k = some pv → kf (nm k) = some .cell → ∃ v, bindC kf ((ps.map nm).zip vals) m (nm k) = some v ∧ RepV h α v pv
  | [], _, _, vs, m, _, _, .nil, e, k, pv, _, e2, _ => by cases e; cases e2
  | [], _, _, vs, m, _, _, .cons _ _, e, k, pv, _, e2, _ => by cases e
  | _ :: _, _, _, vs, m, _, _, .nil, e, k, pv, _, e2, _ => by cases e
  | p :: ps, _, _, vs, m, hn, hp, .cons (v := v) (p := pv0) (vs := vals) (ps := args) r q, e, k, pv, hk, e2, hl => by
    rw [List.nodup_cons] at hn
    obtain ⟨vs', e3, e4⟩ := map_eq e
    subst e4
    by_cases hkp : k = p
    · subst hkp
      have : pv0 = pv := by simpa [upd] using e2
      subst this
      refine ⟨v, ?_, r⟩
      show bindC kf ((ps.map nm).zip vals) _ (nm k) = _
      rw [bindC_other hk (fun q hq => hp q (List.mem_cons_of_mem _ hq)) hn.1, if_neg (by rw [hl]; decide), if_pos rfl]
    · have e2' : vs' k = some pv := by simpa [upd, hkp] using e2
      exact bindC_spec hn.2 (fun q hq => hp q (List.mem_cons_of_mem _ hq)) q e3 k pv hk e2' hl
theorem bindP_len : ∀ {ps : List Nat} {args : List PV} {vs : Vars}, bindP ps args = some vs → args.length = ps.length
  | [], [], _, _ => rfl
  | [], _ :: _, _, h => by cases h
  | _ :: _, [], _, h => by cases h
  | p :: ps, a :: args, vs, h => by
    obtain ⟨vs', e3, _⟩ := map_eq h
    exact congrArg (· + 1) (bindP_len e3)
theorem FrOK.start {s s₁ : Shared} {α : Al} {st : St} {env : Env} {ps : List Nat} {args : List PV} {vals : List Value} {vs : Vars} (i : W.Inv s.heap α st) (hs : env.scope = sc) (hk : sc.kind = .function) (hg : env.globals = mainGlobals) (hb : env.builtins = builtinsNs) (hL : env.locals = s.heap.objs.size) (hc : env.cells = cellsFrom (s.heap.objs.size + 1) sc.names [])
    (hn : ps.Nodup) (hp : ∀ k ∈ ps, k < nN) (hcn : ((cellsFrom 0 sc.names []).map (·.1)).Nodup) (r : RepVs s.heap α vals args) (e : bindP ps args = some vs)
    (x : InCallC s env.locals (bindL env.kindOf ((ps.map nm).zip vals) fun _ => none) env.cells (bindC env.kindOf ((ps.map nm).zip vals) fun _ => none) s₁) : FrOK W.h₀ s₁.heap α env vs := by
  have hk1 := x.toInCall.keep
  obtain ⟨_, x1⟩ := i.grow hk1
  have above : ∀ a, s.heap.objs.size ≤ a → s.heap.get? a = none := fun a ha => by
    cases q : s.heap.get? a with
    | none => rfl
    | some o => exact absurd (Heap.lt_size q) (Nat.not_lt.mpr ha)
  have hLn := above env.locals (by rw [hL]; exact Nat.le_refl _)
  have hcn' : (env.cells.map (·.1)).Nodup := by rw [hc, cellsFrom_names sc.names _ 0 [] [] rfl]; exact hcn
  refine ⟨by rw [hs]; exact hk, hg, hb, i.none0 hLn, Al.off (Mine.Inv.off i hLn), ⟨_, x.toInCall.ns, fun k pv hk' e2 q => ?_⟩, fun p hp' => ?_, x.apart, fun k hk' q => ?_, fun k pv hk' e2 q => ?_⟩
  · exact bindL_spec hn hp (r.ext x1) e k pv hk' e2 q
  · have hlt : env.locals < p.2 := x.above p.1 p.2 hp'
    have hpn := above p.2 (Nat.le_of_lt (hL ▸ hlt))
    exact ⟨i.none0 hpn, Al.off (Mine.Inv.off i hpn), Nat.ne_of_gt hlt, _, x.cell p.1 p.2 (lookup_nodup hcn' hp')⟩
  · have hm : (nm k, NameKind.cell) ∈ sc.names := mem_of_lookup (by rw [← hs]; exact q)
    obtain ⟨c, hcm⟩ := cellsFrom_has sc.names (s.heap.objs.size + 1) [] (nm k) hm
    rw [← hc] at hcm
    exact ⟨c, lookup_nodup hcn' hcm⟩
  · have hm : (nm k, NameKind.cell) ∈ sc.names := mem_of_lookup (by rw [← hs]; exact q)
    obtain ⟨c, hcm⟩ := cellsFrom_has sc.names (s.heap.objs.size + 1) [] (nm k) hm
    rw [← hc] at hcm
    have hl := lookup_nodup hcn' hcm
    obtain ⟨v, ev, rv⟩ := bindC_spec (m := fun _ => none) hn hp (r.ext x1) e k pv hk' e2 q
    have hcell := x.cell (nm k) c hl
    rw [ev] at hcell
    exact ⟨c, v, hl, hcell, rv⟩
theorem Room.deeper {A : Around} {env : Env} (r : Room A (n + 1)) : Room (A.deeper env) n := ⟨r.hd, by have := r.dp; show A.depth + 1 + n < _; omega, by have := r.un; show A.units + 3 + 4 * n + 100 < _; omega⟩
theorem FSim.of {f : Addr} {ps : List Nat} {body : List Stmt} {fs : List PS} (ok : W.Ok) (F : FnIs W f ps sc body) (h : BlSim W n sc body (sSeq fs)) : FSim W (n + 1) (.ref f) (fFun ps fs) := by
  intro A R s α st args vargs v st' room i r he hR
  obtain ⟨vs, e1, he⟩ := bind_eq he
  obtain ⟨⟨fl, vs2, st2⟩, e2, he⟩ := map_eq he
  obtain ⟨o, fd, ho, hd, h1, h2, h3, h4, h5, h6, h7⟩ := F.obj
  have hlen : vargs.length = ps.length := by rw [r.length, bindP_len e1]
  subst h1
  refine codeAny_call_cells (by have := room.dp; omega) (i.base _ _ ho) hd (ok.nolimit.keeps i.base) (h6.keeps i.base) h2 (h7 vargs hlen) h3 (fun y hy => ?_) (fun s₁ x => ?_) F.co F.gen F.kind
  · obtain ⟨a, b⟩ := y
    obtain ⟨k, hk, rfl⟩ := List.mem_map.mp (List.of_mem_zip hy).1
    rcases (F.pk k hk).2 with q | q
    · exact .inl q
    · refine .inr ⟨q, ?_⟩
      obtain ⟨c, hc⟩ := cellsFrom_has fd.scope.names (s.heap.objs.size + 1) [] (nm k) (mem_of_lookup q)
      rw [lookup_nodup (by rw [cellsFrom_names fd.scope.names _ 0 [] [] rfl]; exact F.cnames) hc]
      rfl
  · have hk1 := x.toInCall.keep
    obtain ⟨i1, x1⟩ := i.grow hk1
    have F1 : FrOK W.h₀ s₁.heap α (callEnvC fd s.heap.objs.size f) vs := FrOK.start (env := callEnvC fd s.heap.objs.size f) i rfl F.kind h4 h5 rfl rfl F.nodup (fun k hk => (F.pk k hk).1) F.cnames r e1 x
    have sm1 : same s s₁ := by obtain ⟨h', tk, e⟩ := x.toInCall.same; exact ⟨h', tk, e⟩
    refine h (A.deeper (callEnvC fd s.heap.objs.size f)) _ (callEnvC fd s.heap.objs.size f) α s₁ vs st fl vs2 st2 _ room.deeper rfl F1 i1 e2 fun s2 α2 fr sm2 x2 K2 i2 fo => ?_
    have x02 : Ext [] s.heap α s2.heap α2 := x1.transY x2 fun a ha => .inr (by
      have hh := F1.offX a ha
      rcases List.mem_cons.mp ha with z | ha
      · cases q : s.heap.get? a with
        | none => rfl
        | some o' =>
          have := Heap.lt_size q
          rw [z] at this
          exact absurd this (Nat.lt_irrefl _)
      · obtain ⟨p, hp, rfl⟩ := List.mem_map.mp ha
        have := x.above p.1 p.2 hp
        cases q : s.heap.get? p.2 with
        | none => rfl
        | some o' => exact absurd (Nat.lt_trans this (Heap.lt_size q)) (Nat.lt_irrefl _))
    cases fl with
    | next =>
      obtain ⟨rfl, _⟩ := flow_next fo
      cases he
      exact hR s2 α2 .none (sm1.trans sm2) x02 i2 .none
    | ret pv =>
      obtain ⟨u, rfl, ru⟩ := flow_ret fo
      cases he
      exact hR s2 α2 u (sm1.trans sm2) x02 i2 ru
end Mine
end
section
namespace Mine
open PySem
variable {W : Wd} {n : Nat} {sc : Scope}
theorem callWith_one {A : Around} {E : Value → Shared → Prop} {env : Env} {s : Shared} {e : Expr} {pos : Pos} {f : Value} {first : List Value} {Q : Value → Shared → Prop} (hst : notStar e = true) (hk : KeepOk W f)
    (h : wpAny (model W.prog W.w) A (eval e env) (fun v s1 => (∀ a o, W.h₀.get? a = some o → s1.heap.get? a = some o) ∧ wpAny (model W.prog W.w) A (call f (first ++ [v])) Q E s1) E s) :
    wpAny (model W.prog W.w) A (callWith pos f first (backTo pos (starEach [e] env)) (backToKw pos (keywordEach [] env))) Q E s := by
  rw [starEach_plain env [e] (by simp [hst])]
  refine PySem.W.callWith_of (P := fun h => ∀ a o, W.h₀.get? a = some o → h.get? a = some o) (by rw [backTo_plain]; rfl) hk ?_
  show wpAny _ A (evalArgs f true _ []) _ E s
  refine Calls.evalArgs_plain ?_
  show wpAny _ _ (do
      let v ← eval e env
      let here ← (pure [v] : Sem (List Value))
      return here ++ (← holding [v] (spliced (backTo pos ([] : List (Bool × Sem Value)))))) _ _ _
  refine wpAny_bind (wpAny_mono h (fun v s1 h1 => ?_) fun _ _ x => x)
  exact wpAny_bind (wpAny_pure (wpAny_bind (wpAny_holding (wpAny_pure (wpAny_pure h1)))))
theorem callWith_two {A : Around} {E : Value → Shared → Prop} {env : Env} {s : Shared} {e g : Expr} {pos : Pos} {f : Value} {first : List Value} {Q : Value → Shared → Prop} (hst : notStar e = true) (hst' : notStar g = true) (hk : KeepOk W f)
    (h : wpAny (model W.prog W.w) A (eval e env) (fun v s1 => wpAny (model W.prog W.w) A (eval g env) (fun u s2 => (∀ a o, W.h₀.get? a = some o → s2.heap.get? a = some o) ∧ wpAny (model W.prog W.w) A (call f (first ++ [v, u])) Q E s2) E s1) E s) :
    wpAny (model W.prog W.w) A (callWith pos f first (backTo pos (starEach [e, g] env)) (backToKw pos (keywordEach [] env))) Q E s := by
  rw [starEach_plain env [e, g] (by simp [hst, hst'])]
  refine PySem.W.callWith_of (P := fun h => ∀ a o, W.h₀.get? a = some o → h.get? a = some o) (by rw [backTo_plain]; rfl) hk ?_
  show wpAny _ A (evalArgs f true _ []) _ E s
  refine Calls.evalArgs_plain ?_
  show wpAny _ _ (do
      let v ← eval e env
      let here ← (pure [v] : Sem (List Value))
      return here ++ (← holding [v] (do
        let v ← eval g env
        let here ← (pure [v] : Sem (List Value))
        return here ++ (← holding [v] (spliced (backTo pos ([] : List (Bool × Sem Value)))))))) _ _ _
  refine wpAny_bind (wpAny_mono h (fun v s1 h1 => ?_) fun _ _ x => x)
  refine wpAny_bind (wpAny_pure (wpAny_bind (wpAny_holding (wpAny_bind (wpAny_mono h1 (fun u s2 h2 => ?_) fun _ _ x => x)))))
  exact wpAny_bind (wpAny_pure (wpAny_bind (wpAny_holding (wpAny_pure (wpAny_pure (wpAny_pure h2))))))
theorem ESim.isBool {p p2 pos : Pos} {e : Expr} {fe : PE} (ok : W.Ok) (hx : sc.names.lookup ("isinstance" : Str) = some .globalImplicit) (hg : GName W ("isinstance" : Str) (.builtin "isinstance")) (hx2 : sc.names.lookup ("bool" : Str) = some .globalImplicit) (hg2 : GName W ("bool" : Str) (.type "bool")) (h : ESim W n sc e fe) (hst : notStar e = true) :
    ESim W n sc (.Call (.Name "isinstance" p) [e, .Name "bool" p2] [] pos) (eOp1 dIsBool fe) := by
  intro A E env α s vs st v st' Q room hs hf hi he hQ
  obtain ⟨⟨q1, q2⟩, e1, he⟩ := bind_eq he
  obtain ⟨y, e3, he⟩ := bind_eq he
  obtain ⟨z, e5, he⟩ := map_eq he
  cases he
  rw [eval_Call_Name]
  refine wpAny_bind (name_glob ok hs hf hi hx hg rfl ?_)
  refine callWith_two hst rfl (keepOk_builtin _) (h A E env α s vs st q1 q2 _ room hs hf hi e1 fun s1 α1 pv sm1 x1 i1 r1 => ?_)
  refine name_glob ok hs (hf.step x1) i1 hx2 hg2 rfl ⟨i1.base, ?_⟩
  have rr := r1.rd i1 e3
  cases y <;> try cases e5
  cases rr
  exact PyProof.Rows.call_isinstance_yes (typeIs_bool _ _) PySem.F.isi_meta_bool PySem.F.sub_bool_bool (hQ s1 α1 _ sm1 x1 i1 (.bool _))
theorem items_rangeL {α : Al} {h : Heap} : ∀ (acc : List Value) (a : Int), (∀ (j : Nat) (v : Value), acc[j]? = some v → ∃ t : Tok, v = Value.int (a + (j : Int) * 1) t) → Reps h α acc (rangeL a acc.length)
  | [], _, _ => .nil
  | v :: acc, a, hp => by
    obtain ⟨t, rfl⟩ := hp 0 v rfl
    refine .cons ?_ (items_rangeL acc (a + 1) fun j u e => ?_)
    · have : a + ((0 : Nat) : Int) * 1 = a := by omega
      rw [this]; exact .int _ _
    · obtain ⟨t, rfl⟩ := hp (j + 1) u (by simpa using e)
      exact ⟨t, by congr 1; push_cast; omega⟩
theorem ESim.listRange {p p2 pos pos2 : Pos} {e : Expr} {f : PE} (ok : W.Ok) (hx : sc.names.lookup ("list" : Str) = some .globalImplicit) (hg : GName W ("list" : Str) (.type "list")) (hx2 : sc.names.lookup ("range" : Str) = some .globalImplicit) (hg2 : GName W ("range" : Str) (.type "range")) (h : ESim W n sc e f) (hst : notStar e = true) :
    ESim W n sc (.Call (.Name "list" p) [.Call (.Name "range" p2) [e] [] pos2] [] pos) (eListRange f) := by
  intro A E env α s vs st v st' Q room hs hf hi he hQ
  obtain ⟨⟨xs, st1⟩, e1, he⟩ := map_eq he
  cases he
  obtain ⟨k, g1, z1, z2, rfl⟩ := range1_dat e1
  rw [eval_Call_Name]
  refine wpAny_bind (name_glob ok hs hf hi hx hg rfl ?_)
  refine callWith_one rfl (keepOk_type _) ?_
  rw [eval_Call_Name]
  refine wpAny_bind (name_glob ok hs hf hi hx2 hg2 rfl ?_)
  refine callWith_sim (.cons h .nil) (by simp [hst]) (keepOk_type _) room hs hf hi (eSeq_one g1) fun s1 α1 pvs sm1 x1 i1 r1 => ?_
  cases r1 with
  | cons ra rn =>
    cases rn
    cases ra
    refine call_range_1 ?_
    obtain ⟨i2, x2⟩ := i1.grow (h' := s1.heap.push { cls := .type "range", data := .fields #[.int 0 s1.toks, .int k _, .int 1 (s1.toks + 1)] }) fun b o e => Heap.get?_push_of_some _ e
    refine ⟨i2.base, ?_⟩
    unfold small at z1
    simp only [Bool.and_eq_true, decide_eq_true_eq] at z1
    refine call_list_range (n := k.toNat) (s := { s1 with heap := _, toks := _ }) room.hd (IsRange.new _ _ _ _ _ _ _) (small_one (by omega) (by omega) (by omega) (by omega)) (by rw [rangeSize_one]; split <;> omega) (by omega) fun h' tk acc' c' hk hS hit => ?_
    obtain ⟨i3, x3⟩ := i2.grow hk
    have hoff : (s1.heap.push { cls := .type "range", data := .fields #[.int 0 s1.toks, .int k _, .int 1 (s1.toks + 1)] }).objs.size ∉ α1.all := Mine.Inv.off i2 (fresh_none _)
    refine hQ _ α1 _ (sm1.trans ⟨_, _, rfl⟩) ((x1.trans x2).trans x3) i3 (.list hS hoff ?_)
    have hl : acc'.toList.length = k.toNat := by rw [Array.length_toList]; exact hit.1
    rw [← hl]
    exact items_rangeL acc'.toList 0 fun j v e => hit.2 j v (by rw [← Array.getElem?_toList]; exact e)
end Mine
end
section
namespace Mine
open PySem
variable {W : Wd} {n : Nat} {sc : Scope}
theorem insertSorted_perm (x : Int) : ∀ l, (insertSorted x l).Perm (x :: l)
  | [] => .refl _
  | y :: r => by
    unfold insertSorted
    split
    · exact .refl _
    · exact ((insertSorted_perm x r).cons y).trans (.swap x y r)
theorem isort_perm : ∀ l, (isort l).Perm l
  | [] => .refl _
  | x :: r => (insertSorted_perm x _).trans ((isort_perm r).cons x)
theorem insertSorted_sorted (x : Int) : ∀ l : List Int, l.Pairwise (· ≤ ·) → (insertSorted x l).Pairwise (· ≤ ·)
  | [], _ => by simp [insertSorted]
  | y :: r, h => by
    rw [List.pairwise_cons] at h
    unfold insertSorted
    split
    · rename_i hxy
      refine List.pairwise_cons.mpr ⟨fun z hz => ?_, List.pairwise_cons.mpr h⟩
      rcases List.mem_cons.mp hz with rfl | hz
      · exact hxy
      · have := h.1 z hz; omega
    · rename_i hxy
      refine List.pairwise_cons.mpr ⟨fun z hz => ?_, insertSorted_sorted x r h.2⟩
      rcases List.mem_cons.mp ((insertSorted_perm x r).mem_iff.mp hz) with rfl | hz
      · omega
      · exact h.1 z hz
theorem isort_sorted : ∀ l : List Int, (isort l).Pairwise (· ≤ ·)
  | [] => .nil
  | x :: r => insertSorted_sorted x _ (isort_sorted r)
theorem isort_uniq {l l' : List Int} (h : l.Perm l') (h2 : l.Pairwise (· ≤ ·)) : l = isort l' :=
  List.Perm.eq_of_pairwise (fun _ _ _ _ a b => Int.le_antisymm a b) h2 (isort_sorted l') (h.trans (isort_perm l').symm)
theorem ints_reps {h : Heap} {α : Al} : ∀ {vs : List Value} {ns : List Int}, PyProof.Rows.IntsAre vs ns → Reps h α vs (ns.map .int)
  | _, _, .nil => .nil
  | _, _, .cons n t r => .cons (.int n t) (ints_reps r)
theorem ints_of {ks : List Int} : ∀ {vs : List Value} {i : Nat}, (∀ (j : Nat) (v : Value), vs[j]? = some v → ∃ t, v = .int (ks.getD (i + j) 0) t) → i + vs.length = ks.length → PyProof.Rows.IntsAre vs (ks.drop i)
  | [], i, _, h => by rw [List.drop_eq_nil_of_le (by simp at h; omega)]; exact .nil
  | v :: vs, i, hp, h => by
    have hlt : i < ks.length := by simp at h; omega
    obtain ⟨t, rfl⟩ := hp 0 v rfl
    rw [List.drop_eq_getElem_cons hlt]
    have : ks.getD (i + 0) 0 = ks[i] := by simp [List.getD, List.getElem?_eq_getElem hlt]
    rw [this]
    refine .cons _ _ (ints_of (i := i + 1) (fun j u e => ?_) (by simp at h; omega))
    obtain ⟨t', e'⟩ := hp (j + 1) u (by simpa using e)
    exact ⟨t', by rw [e']; congr 2; omega⟩
theorem sort_here {A : Around} {E : Value → Shared → Prop} {s : Shared} {α : Al} {st : St} {D : Addr} {vs : List Value} {ks : List Int} {Q : Value → Shared → Prop} {h0 : Heap} (i : W.Inv h0 α st) (hD0 : h0.get? D = none) (hk0 : ∀ a o, h0.get? a = some o → s.heap.get? a = some o) (ho : s.heap.get? D = some { cls := .type "list", data := .seq vs.toArray 0 }) (hI : PyProof.Rows.IntsAre vs ks) (hl : vs.length < 64)
    (hQ : ∀ s', same s s' → Ext [] h0 α s'.heap α → W.Inv s'.heap α st → Rep s'.heap α (.ref D) (.list ((isort ks).map .int)) → Q .none s') : wpAny (model W.prog W.w) A (call (.builtin "list.sort") [.ref D]) Q E s := by
  refine wpAny_call_entry PyProof.Rows.slot_list_sort ⟨_, ho, rfl⟩ PyProof.Rows.entry_list_sort (PyProof.Rows.list_sort_tree (vs := vs) (ns := ks) ho hI hl fun out ns' a1 a2 a3 => ⟨_, rfl, ?_⟩) (PyProof.Rows.args_list_sort _)
  have hlt := Heap.lt_size ho
  have hk : ∀ a o, a ≠ D → s.heap.get? a = some o → (PyProof.Rows.sortedHeap s.heap D vs out).get? a = some o := fun a o ha e => by
    unfold PyProof.Rows.sortedHeap
    rw [Heap.get?_update_other _ _ (Ne.symm ha)]
    refine Heap.get?_push_of_some _ (Heap.get?_push_of_some _ ?_)
    rw [Heap.get?_update_other _ _ (Ne.symm ha)]
    exact e
  obtain ⟨n', e1⟩ := mapSeq_plain (fun _ => (#[] : Array Value)) vs.toArray 0
  have ho1 : (s.heap.update D (Obj.mapSeq fun _ => #[])).get? D = some { cls := .type "list", data := .seq #[] n' } := by rw [Heap.get?_update_self _ ho (by rw [e1]; rfl), e1]
  obtain ⟨n2, e2⟩ := mapSeq_plain (fun _ => out) #[] n'
  have hD : (PyProof.Rows.sortedHeap s.heap D vs out).get? D = some { cls := .type "list", data := .seq out n2 } := by
    unfold PyProof.Rows.sortedHeap
    have ho2 := Heap.get?_push_of_some (PyProof.Rows.seqObj "list" #[] 0) (Heap.get?_push_of_some (PyProof.Rows.seqObj "tuple" vs.toArray 0) ho1)
    rw [Heap.get?_update_self _ ho2 (by rw [e2]; rfl), e2]
  obtain ⟨i2, x2⟩ := i.grow (h' := PyProof.Rows.sortedHeap s.heap D vs out) fun a o e => hk a o (fun z => by rw [z, hD0] at e; cases e) (hk0 a o e)
  refine hQ _ ⟨_, _, rfl⟩ x2 i2 (.list hD (Mine.Inv.off i hD0) ?_)
  rw [← isort_uniq a2 a3]
  exact ints_reps a1
theorem ESim.sortedKeys {p pos : Pos} {e : Expr} {fe : PE} (ok : W.Ok) (hx : sc.names.lookup ("sorted" : Str) = some .globalImplicit) (hg : GName W ("sorted" : Str) (.builtin "sorted")) (h : ESim W n sc e fe) (hst : notStar e = true) : ESim W n sc (.Call (.Name "sorted" p) [e] [] pos) (eSortedKeys fe) := by
  intro A E env α s vs st v st' Q room hs hf hi he hQ
  obtain ⟨⟨q1, q2⟩, e1, he⟩ := bind_eq he
  cases q1 with
  | d x => cases he
  | ref j =>
    dsimp only at he
    split at he
    · rename_i ks g
      split at he
      · rename_i hz
        cases he
        have hz' := of_decide_eq_true hz
        rw [eval_Call_Name]
        refine wpAny_bind (name_glob ok hs hf hi hx hg rfl ?_)
        refine callWith_sim (.cons h .nil) (by simp [hst]) (keepOk_builtin _) room hs hf hi (eSeq_one e1) fun s1 α1 pvs sm1 x1 i1 r1 => ?_
        cases r1 with
        | cons ra rn =>
          cases rn
          obtain ⟨a, ea, rfl⟩ := ra
          obtain ⟨kvs, hd, hks⟩ := i1.objs j a _ ea g
          obtain ⟨ep, hat⟩ := hd.dictAt
          have lo : (a == sysModules) = false := beq_eq_false_iff_ne.mpr fun z => by
            obtain ⟨o, eo⟩ := ok.sys
            rw [← z, i1.hi a (List.mem_of_getElem? ea)] at eo; cases eo
          have hlen : kvs.length = ks.length := by rw [← hks, List.length_map]
          show wpAny _ A (PySem.call (.builtin "sorted") [.ref a]) _ _ _
          refine PySem.Calls.call_function_entry PyProof.Rows.kind_sorted PyProof.Rows.plain_sorted PyProof.Rows.entry_sorted (PyProof.Rows.args_sorted1 _) ?_
          unfold Builtin.«sorted»
          refine wpAny_bind (m := checkCount "sorted" 1 1 _) (wpAny_pure ?_)
          refine wpAny_bind (PySem.W.kdu_collect (A := A.in1) (PySem.W.kdl_dict (knd := intKind W.prog W.w) lo) room.hd hat (by rw [sizeLine_eq]; omega) fun h' tk acc hk hacc => ?_)
          have hl : acc.toList.length = ks.length := by rw [Array.length_toList, hacc.1, hlen]
          refine wpAny_bind (wpAny_newList ?_ (by rw [hl, sizeLine_eq]; omega))
          have hI : PyProof.Rows.IntsAre acc.toList ks := by
            have := ints_of (ks := ks) (vs := acc.toList) (i := 0) (fun m u eu => ?_) (by omega)
            · simpa using this
            · obtain ⟨k, x, g1, g2⟩ := hacc.2 m u (by rw [← Array.getElem?_toList]; exact eu)
              obtain ⟨t, rfl⟩ := Value.isInt_shape g2
              refine ⟨t, ?_⟩
              have : ks[m]? = some k := by rw [← hks, List.getElem?_map, g1]; rfl
              simp [List.getD, this]
          have hfr : h'.get? h'.objs.size = none := fresh_none _
          obtain ⟨i2, x2⟩ := i1.grow hk
          refine wpAny_bind (wpAny_holding (sort_here (s := { s1 with heap := h'.push { cls := .type "list", data := .seq acc.toList.toArray }, toks := tk }) i2 hfr (fun b o e => Heap.get?_push_of_some _ e) (Heap.get?_push_size _ rfl) hI (by omega) fun s3 sm3 x3 i3 r3 => ?_))
          exact wpAny_pure ⟨_, rfl, hQ s3 α1 _ (sm1.trans (same.trans ⟨_, _, rfl⟩ sm3)) ((x1.trans x2).trans x3) i3 r3⟩
      · cases he
    · cases he
end Mine
end
section
namespace Mine
open PySem
variable {W : Wd} {n : Nat} {sc : Scope}
theorem keepOk_K {f : Value} (ok : W.Ok) (hk : PySem.W.keepIn W.K f = true) : KeepOk W f := fun h hp => PySem.W.keeps_K hk h (fun a o e => hp a o (ok.kin a o e))
theorem ESim.newInst {x : Str} {p pos : Pos} {fI : Addr} {F : PF} (ok : W.Ok) (hx : sc.names.lookup x = some .globalImplicit) (hg : GName W x (.ref W.C)) (hd : (x == ("__debug__" : Str)) = false) (hk : PySem.W.keepIn W.K (.ref W.C) = true) (hm : PySem.W.makesIn W.K W.C = true)
    (hi : PySem.W.findIn W.K (.ref W.C) "__init__" = some (some (.ref fI))) (hf : PySem.W.typeIn W.K (.ref fI) = some (.type "function")) (hF : FSim W n (.ref fI) F) : ESim W (n + 1) sc (.Call (.Name x p) [] [] pos) (eNew F) := by
  intro A E env α s vs st v st' Q room hs hf' i he hQ
  obtain ⟨⟨r1, r2⟩, e1, he⟩ := bind_eq he
  dsimp only at he
  split at he
  · cases he
    rw [eval_Call_Name]
    refine wpAny_bind (name_glob ok hs hf' i hx hg hd ?_)
    refine callWith_sim (fs := []) (ps := []) (n := n + 1) .nil rfl (keepOk_K ok hk) room hs hf' i rfl fun s1 α1 pvs sm1 x1 i1 r1 => ?_
    cases r1
    show wpAny _ A (PySem.call (.ref W.C) []) _ _ _
    refine wpAny_call ?_
    have X : W.K.In s1.heap := fun b ob e => i1.base b ob (ok.kin b ob e)
    obtain ⟨hh, g, d, t, os⟩ := s1
    refine PySem.W.make_core (PySem.W.makes_of X hm) (PySem.W.looks_findIn X hi) (fun self => PySem.W.bind_fn X self hf) (.inl rfl) ?_
    dsimp only at i1 x1 X sm1
    have hfr : hh.get? hh.objs.size = none := fresh_none _
    obtain ⟨i2, x2⟩ := i1.new (o := .sdict []) (h' := hh.push PySem.W.emptyDict) hfr (fun b ob e => Heap.get?_push_of_some _ e) fun _ K => ⟨[], dictOf_nil _ (Heap.get?_push_size _ rfl), .nil⟩
    have hsz : (hh.push PySem.W.emptyDict).objs.size = hh.objs.size + 1 := Heap.size_push ..
    have hfr2 : (hh.push PySem.W.emptyDict).get? (hh.objs.size + 1) = none := by rw [← hsz]; exact fresh_none _
    obtain ⟨i3, x3⟩ := i2.new (o := .inst st.length) (a := hh.objs.size + 1) (h' := (hh.push PySem.W.emptyDict).push (PySem.W.instObj W.C hh.objs.size)) hfr2 (fun b ob e => Heap.get?_push_of_some _ e) fun x K => ⟨hh.objs.size, by
      have : ((α1.add hh.objs.size).add (hh.objs.size + 1)).hs[st.length]? = some hh.objs.size := by rw [← i1.len]; simp [Al.add]
      exact this, by rw [← hsz]; exact Heap.get?_push_size _ rfl⟩
    have hself : RepV ((hh.push PySem.W.emptyDict).push (PySem.W.instObj W.C hh.objs.size)) ((α1.add hh.objs.size).add (hh.objs.size + 1)) (.ref (hh.objs.size + 1)) (.ref (st.length + 1)) := ⟨hh.objs.size + 1, by rw [← i1.len]; simp [Al.add], rfl⟩
    have room' : Room (A.under (.builtin "type.__call__" ⟨[.ref W.C], []⟩)) n := by
      refine ⟨room.hd, ?_, ?_⟩
      · have := room.dp
        show A.depth + _ + n < _
        have hw : (Code.builtin "type.__call__" ⟨[Value.ref W.C], []⟩).weight ≤ 1 := Nat.le_of_eq (show (Code.builtin "type.__call__" ⟨[Value.ref W.C], []⟩).weight = 1 from rfl)
        omega
      · have := room.un
        show A.units + _ + 4 * n + 100 < _
        have hw : (Code.builtin "type.__call__" ⟨[Value.ref W.C], []⟩).cUnits ≤ 4 := Nat.le_trans (Nat.le_of_eq (show (Code.builtin "type.__call__" ⟨[Value.ref W.C], []⟩).cUnits = 1 from rfl)) (by decide)
        omega
    refine hF _ _ _ _ _ _ _ _ _ room' i3 (.cons hself .nil) e1 fun s4 α4 pv sm4 x4 i4 r4 => ?_
    cases r4
    refine ⟨rfl, ?_⟩
    have x14 := ((x1.trans x2).trans x3).trans x4
    exact hQ s4 α4 _ (sm1.trans (same.trans ⟨_, _, rfl⟩ sm4)) x14 i4 (hself.ext x4)
  · cases he
end Mine
end
section
namespace Mine
open PySem
variable {W : Wd} {n : Nat} {sc : Scope}
noncomputable def tab (led : Bool) (l : List Int) : SetTable := { mask := 7, place := (l.map Int.toNat).toArray, dummies := #[], finger := 0, led, moves := 0, plain := true }
theorem lay_n_0 (led : Bool) ( u : Tok) : layNew (tab led []) #[] (hashInt 0) (.int 0 u) = (#[(hashInt 0, .int 0 u)], tab led [0], false, false) := by kernel_rfl
theorem lay_n_1 (led : Bool) ( u : Tok) : layNew (tab led []) #[] (hashInt 1) (.int 1 u) = (#[(hashInt 1, .int 1 u)], tab led [1], false, false) := by kernel_rfl
theorem lay_n_2 (led : Bool) ( u : Tok) : layNew (tab led []) #[] (hashInt 2) (.int 2 u) = (#[(hashInt 2, .int 2 u)], tab led [2], false, false) := by kernel_rfl
theorem lay_0_1 (led : Bool) (t0 u : Tok) : layNew (tab led [0]) #[(hashInt 0, .int 0 t0)] (hashInt 1) (.int 1 u) = (#[(hashInt 0, .int 0 t0), (hashInt 1, .int 1 u)], tab led [0, 1], false, false) := by kernel_rfl
theorem lay_0_2 (led : Bool) (t0 u : Tok) : layNew (tab led [0]) #[(hashInt 0, .int 0 t0)] (hashInt 2) (.int 2 u) = (#[(hashInt 0, .int 0 t0), (hashInt 2, .int 2 u)], tab led [0, 2], false, false) := by kernel_rfl
theorem lay_1_0 (led : Bool) (t1 u : Tok) : layNew (tab led [1]) #[(hashInt 1, .int 1 t1)] (hashInt 0) (.int 0 u) = (#[(hashInt 0, .int 0 u), (hashInt 1, .int 1 t1)], tab led [0, 1], false, false) := by kernel_rfl
theorem lay_1_2 (led : Bool) (t1 u : Tok) : layNew (tab led [1]) #[(hashInt 1, .int 1 t1)] (hashInt 2) (.int 2 u) = (#[(hashInt 1, .int 1 t1), (hashInt 2, .int 2 u)], tab led [1, 2], false, false) := by kernel_rfl
theorem lay_2_0 (led : Bool) (t2 u : Tok) : layNew (tab led [2]) #[(hashInt 2, .int 2 t2)] (hashInt 0) (.int 0 u) = (#[(hashInt 0, .int 0 u), (hashInt 2, .int 2 t2)], tab led [0, 2], false, false) := by kernel_rfl
theorem lay_2_1 (led : Bool) (t2 u : Tok) : layNew (tab led [2]) #[(hashInt 2, .int 2 t2)] (hashInt 1) (.int 1 u) = (#[(hashInt 1, .int 1 u), (hashInt 2, .int 2 t2)], tab led [1, 2], false, false) := by kernel_rfl
theorem lay_01_2 (led : Bool) (t0 t1 u : Tok) : layNew (tab led [0, 1]) #[(hashInt 0, .int 0 t0), (hashInt 1, .int 1 t1)] (hashInt 2) (.int 2 u) = (#[(hashInt 0, .int 0 t0), (hashInt 1, .int 1 t1), (hashInt 2, .int 2 u)], tab led [0, 1, 2], false, false) := by kernel_rfl
theorem lay_02_1 (led : Bool) (t0 t2 u : Tok) : layNew (tab led [0, 2]) #[(hashInt 0, .int 0 t0), (hashInt 2, .int 2 t2)] (hashInt 1) (.int 1 u) = (#[(hashInt 0, .int 0 t0), (hashInt 1, .int 1 u), (hashInt 2, .int 2 t2)], tab led [0, 1, 2], false, false) := by kernel_rfl
theorem lay_12_0 (led : Bool) (t1 t2 u : Tok) : layNew (tab led [1, 2]) #[(hashInt 1, .int 1 t1), (hashInt 2, .int 2 t2)] (hashInt 0) (.int 0 u) = (#[(hashInt 0, .int 0 u), (hashInt 1, .int 1 t1), (hashInt 2, .int 2 t2)], tab led [0, 1, 2], false, false) := by kernel_rfl
inductive SetEs : List (Int × Value) → List Int → Prop
  | nil : SetEs [] []
  | cons (i : Int) (t : Tok) {es l} : SetEs es l → SetEs ((hashInt i, .int i t) :: es) (i :: l)
noncomputable def allL : List (List Int) := [[], [0], [1], [2], [0, 1], [0, 2], [1, 2], [0, 1, 2]]
theorem SetEs.elems {prog : Program} {w : World} {es : List (Int × Value)} {l : List Int} (h : SetEs es l) : ElemsOf (intKind prog w) es := by
  induction h with
  | nil => exact fun e he => by cases he
  | cons i t _ ih =>
    intro e he
    rcases List.mem_cons.mp he with rfl | he
    · exact ⟨⟨i, intKind_is _ _ _ _, rfl⟩, rfl⟩
    · exact ih e he
theorem SetEs.length {es : List (Int × Value)} {l : List Int} (h : SetEs es l) : es.length = l.length := by
  induction h with
  | nil => rfl
  | cons i t _ ih => simp [ih]
theorem SetEs.find {prog : Program} {w : World} {es : List (Int × Value)} {l : List Int} (h : SetEs es l) (x : Int) : (es.findIdx? fun e => (intKind prog w).is x e.2).isSome = l.contains x := by
  induction h with
  | nil => rfl
  | cons i t _ ih =>
    rw [List.findIdx?_cons, List.contains_cons]
    have : (intKind prog w).is x (Value.int i t) = (x == i) := by
      show (i == x) = _
      by_cases h : i = x
      · subst h; simp
      · rw [show (i == x) = false from beq_eq_false_iff_ne.mpr h, show (x == i) = false from beq_eq_false_iff_ne.mpr (Ne.symm h)]
    rw [this]
    cases hb : x == i with
    | true => rfl
    | false => simpa using ih
theorem layNew_tab {led : Bool} {es : Array (Int × Value)} {l : List Int} {x : Int} {u : Tok} (hl : l ∈ allL) (hx : x = 0 ∨ x = 1 ∨ x = 2) (hn : l.contains x = false) (he : SetEs es.toList l) :
    ∃ es' : Array (Int × Value), layNew (tab led l) es (hashInt x) (.int x u) = (es', tab led (insertSorted x l), false, false) ∧ SetEs es'.toList (insertSorted x l) := by
  obtain ⟨esl⟩ := es
  dsimp only at he
  simp only [allL, List.mem_cons, List.not_mem_nil, or_false] at hl
  rcases hl with rfl | rfl | rfl | rfl | rfl | rfl | rfl | rfl <;> rcases hx with rfl | rfl | rfl <;> try (exact absurd hn (by decide))
  · cases he; exact ⟨_, lay_n_0 led u, .cons _ _ .nil⟩
  · cases he; exact ⟨_, lay_n_1 led u, .cons _ _ .nil⟩
  · cases he; exact ⟨_, lay_n_2 led u, .cons _ _ .nil⟩
  · obtain _ | ⟨_, t0, he⟩ := he; cases he; exact ⟨_, lay_0_1 led t0 u, .cons _ _ (.cons _ _ .nil)⟩
  · obtain _ | ⟨_, t0, he⟩ := he; cases he; exact ⟨_, lay_0_2 led t0 u, .cons _ _ (.cons _ _ .nil)⟩
  · obtain _ | ⟨_, t0, he⟩ := he; cases he; exact ⟨_, lay_1_0 led t0 u, .cons _ _ (.cons _ _ .nil)⟩
  · obtain _ | ⟨_, t0, he⟩ := he; cases he; exact ⟨_, lay_1_2 led t0 u, .cons _ _ (.cons _ _ .nil)⟩
  · obtain _ | ⟨_, t0, he⟩ := he; cases he; exact ⟨_, lay_2_0 led t0 u, .cons _ _ (.cons _ _ .nil)⟩
  · obtain _ | ⟨_, t0, he⟩ := he; cases he; exact ⟨_, lay_2_1 led t0 u, .cons _ _ (.cons _ _ .nil)⟩
  · obtain _ | ⟨_, t0, he⟩ := he; obtain _ | ⟨_, t1, he⟩ := he; cases he; exact ⟨_, lay_01_2 led t0 t1 u, .cons _ _ (.cons _ _ (.cons _ _ .nil))⟩
  · obtain _ | ⟨_, t0, he⟩ := he; obtain _ | ⟨_, t1, he⟩ := he; cases he; exact ⟨_, lay_02_1 led t0 t1 u, .cons _ _ (.cons _ _ (.cons _ _ .nil))⟩
  · obtain _ | ⟨_, t0, he⟩ := he; obtain _ | ⟨_, t1, he⟩ := he; cases he; exact ⟨_, lay_12_0 led t0 t1 u, .cons _ _ (.cons _ _ (.cons _ _ .nil))⟩
theorem insL_ok {l : List Int} {x : Int} (hl : l ∈ allL) (hx : x = 0 ∨ x = 1 ∨ x = 2) : insL x l ∈ allL := by
  simp only [allL, List.mem_cons, List.not_mem_nil, or_false] at hl
  rcases hl with rfl | rfl | rfl | rfl | rfl | rfl | rfl | rfl <;> rcases hx with rfl | rfl | rfl <;> decide
noncomputable def SetSt (led : Bool) (h : Heap) (a : Addr) (l : List Int) (es : Array (Int × Value)) (ep : Nat) : Prop := h.get? a = some { cls := .type "set", dict := none, data := .set es ep (tab led l) } ∧ SetEs es.toList l
theorem tab_fits {led : Bool} {l : List Int} (hl : l ∈ allL) {k : Nat} (h : k = l.length) : (tab led l).fits k = true := by
  subst h
  simp only [allL, List.mem_cons, List.not_mem_nil, or_false] at hl
  rcases hl with rfl | rfl | rfl | rfl | rfl | rfl | rfl | rfl <;> rfl
theorem tab_full {led : Bool} {l : List Int} (hl : l ∈ allL) : (tab led l).tooFull = false := by
  simp only [allL, List.mem_cons, List.not_mem_nil, or_false] at hl
  rcases hl with rfl | rfl | rfl | rfl | rfl | rfl | rfl | rfl <;> rfl
theorem allL_len {l : List Int} (hl : l ∈ allL) : l.length ≤ 3 := by
  simp only [allL, List.mem_cons, List.not_mem_nil, or_false] at hl
  rcases hl with rfl | rfl | rfl | rfl | rfl | rfl | rfl | rfl <;> decide
theorem set_add {prog : Program} {w : World} {A : Around} {E : Value → Shared → Prop} {s : Shared} {led : Bool} {a : Addr} {l : List Int} {es : Array (Int × Value)} {ep : Nat} {x : Int} {u : Tok} {Q : Bool → Shared → Prop} (hl : l ∈ allL) (hx : x = 0 ∨ x = 1 ∨ x = 2) (h0 : SetSt led s.heap a l es ep)
    (h : ∀ b h' es' ep', Heap.SameBut a s.heap h' → SetSt led h' a (insL x l) es' ep' → Q b { s with heap := h' }) : wpAny (model prog w) A (setAddHashed a (.int x u) ((intKind prog w).hash x)) Q E s := by
  obtain ⟨ho, hes⟩ := h0
  have hsz : es.size = l.length := by rw [← hes.length, Array.length_toList]
  have hl3 := allL_len hl
  have hf : (tab led l).fits es.size = true := tab_fits hl hsz
  have hb : es.size < scanBound := by unfold scanBound; omega
  have hel : ElemsOf (intKind prog w) es.toList := hes.elems
  unfold setAddHashed setAddHashedIn
  refine wpAny_holding (wpAny_bind (wpAny_setState_of ho rfl hf ?_))
  dsimp only
  rw [byScan_of (knd := intKind prog w) (x := .int x u) rfl hb hel]
  simp only [↓reduceIte]
  unfold setAddByScan
  refine wpAny_bind ?_
  refine wpAny_bind (wpAny_rule ?_)
  refine wpAny_bind (wpAny_setScan_of (knd := intKind prog w) (k := x) (intKind_is _ _ _ _) ho rfl hf hel ?_)
  have hfind := hes.find (prog := prog) (w := w) x
  cases hr : List.findIdx? (fun e => (intKind prog w).is x e.2) es.toList with
  | some j =>
    rw [hr] at hfind
    have hc : l.contains x = true := hfind.symm
    dsimp only
    refine wpAny_pure (wpAny_pure ?_)
    exact h _ s.heap es ep (Heap.SameBut.refl a s.heap) (by unfold insL; rw [if_pos hc]; exact ⟨ho, hes⟩)
  | none =>
    rw [hr] at hfind
    have hc : l.contains x = false := hfind.symm
    dsimp only
    obtain ⟨es', e1, e2⟩ := layNew_tab (led := led) (u := u) hl hx hc hes
    have hins : insL x l = insertSorted x l := by unfold insL; rw [hc]; rfl
    have hl' : insertSorted x l ∈ allL := hins ▸ insL_ok hl hx
    have e1' : layNew (tab led l) es ((intKind prog w).hash x) (.int x u) = (es', tab led (insertSorted x l), false, false) := e1
    rw [e1']
    dsimp only
    have hsz' : es'.size = (insertSorted x l).length := by rw [← e2.length, Array.length_toList]
    have hl3' := allL_len hl'
    refine wpAny_bind (wpAny_pure ?_)
    rw [if_pos (show (tab led (insertSorted x l)).plain = true from rfl)]
    refine wpAny_bind ?_
    rw [hashByValue_scannable 8 (x := .int x u) rfl]
    refine wpAny_pure ?_
    simp only [show plainKind (.int x u) = true from rfl, if_true]
    refine wpAny_bind (wpAny_storeSet_of ho rfl ?_ (by rw [sizeLine_eq]; omega))
    rw [show (!false && (tab led (insertSorted x l)).tooFull) = false by rw [tab_full hl']; rfl]
    have hg : (s.heap.update a (Obj.putSet es' (tab led (insertSorted x l)))).get? a = some { cls := .type "set", dict := none, data := .set es' (ep + 1) (tab led (insertSorted x l)) } := by
      have := Heap.get?_update_self (Obj.putSet es' (tab led (insertSorted x l))) ho (by rw [putSet_of es' _ rfl]; rfl)
      rw [putSet_of es' _ rfl] at this; exact this
    refine wpAny_pure (wpAny_pure ?_)
    exact h _ _ es' (ep + 1) (Heap.SameBut.update ..) (by rw [hins]; exact ⟨hg, e2⟩)
end Mine
end
section
namespace Mine
open PySem
variable {W : Wd} {n : Nat} {sc : Scope}
noncomputable def ledOf (w : World) : Bool := !(w.params.followText "set-order")
theorem foldI_ok : ∀ {xs l : List Int}, l ∈ allL → (∀ x ∈ xs, x = 0 ∨ x = 1 ∨ x = 2) → foldI l xs ∈ allL
  | [], _, h, _ => h
  | x :: xs, l, h, hx => foldI_ok (xs := xs) (insL_ok h (hx x List.mem_cons_self)) fun y hy => hx y (List.mem_cons_of_mem _ hy)
section
variable {prog : Program} {w : World} {A : Around} {E : Value → Shared → Prop} {R : Result → Shared → Prop} {s : Shared}
theorem set_loop {I S ax : Addr} {items : Array Value} {xs : List Int} {led : Bool} (hh : A.handled = none) (hne : ax ≠ I) (hSI : S ≠ I) (hSax : S ≠ ax) (hI : PyProof.Rows.IntsAre items.toList xs) (hx : ∀ x ∈ xs, x = 0 ∨ x = 1 ∨ x = 2) :
    ∀ (k i : Nat) (s : Shared) (l : List Int) (es : Array (Int × Value)) (ep : Nat), i + k = xs.length → s.heap.IsListIter I ax i → s.heap.IsList ax items → l ∈ allL → SetSt led s.heap S l es ep →
      (∀ h' tk es' ep', (∀ b o, b ≠ S → b ≠ I → s.heap.get? b = some o → h'.get? b = some o) → SetSt led h' S (foldI l (xs.drop i)) es' ep' → R (.ok (.ret .none)) { s with heap := h', toks := tk }) →
      codeAny (model prog w) A (.builtin "set.update.loop" ⟨[.ref S, .ref I], []⟩) R s := by
  have hsz : items.size = xs.length := by rw [← Array.length_toList]; exact PyProof.Rows.IntsAre.length hI
  intro k
  induction k with
  | zero =>
    intro i s l es ep hi hit hl hall hS hR
    refine codeAny_builtin PyProof.Rows.F.entry_set_update_loop ?_
    rw [Around.under_plainId PyProof.Rows.F.plain_set_update_loop _]
    show wpAny _ A.in1 (pyNext (.ref I) >>= _) _ _ s
    refine wpAny_bind (wpAny_pyNext_list_end (A := A.in1) hh hit hl (by rw [Array.getElem?_eq_none]; omega) fun h' he => ?_)
    show wpAny _ A.in1 (ret Value.none) _ _ _
    have hd : xs.drop i = [] := List.drop_eq_nil_of_le (by omega)
    refine wpAny_pure (hR h' s.toks es ep (fun b o hb1 hb2 e => he b o hb2 e) ?_)
    rw [hd]
    exact ⟨he S _ hSI hS.1, hS.2⟩
  | succ k ih =>
    intro i s l es ep hi hit hl hall hS hR
    have hlt : i < xs.length := by omega
    have hlti : i < items.size := by omega
    refine codeAny_builtin PyProof.Rows.F.entry_set_update_loop ?_
    rw [Around.under_plainId PyProof.Rows.F.plain_set_update_loop _]
    show wpAny _ A.in1 (pyNext (.ref I) >>= _) _ _ s
    refine wpAny_bind (wpAny_pyNext_list_item hit hl (x := items[i]) (by simp [hlti]) fun h' hit' hs' => ?_)
    obtain ⟨t, et⟩ := PyProof.Rows.IntsAre.int_at hI i items[i] (by rw [Array.getElem?_toList]; simp [hlti])
    have hxi : xs.getD i 0 = xs[i] := by simp [List.getD, List.getElem?_eq_getElem hlt]
    rw [hxi] at et
    rw [et]
    show wpAny _ A.in1 (holding [Value.int xs[i] t] (setAdd S (.int xs[i] t)) >>= _) _ _ _
    refine wpAny_bind (wpAny_holding ?_)
    unfold setAdd
    refine wpAny_holding ?_
    refine wpAny_bind ((intKind prog w).pyHash (k := xs[i]) (intKind_is _ _ _ _) ?_)
    have hxx := hx xs[i] (List.getElem_mem hlt)
    have hS' : SetSt led h' S l es ep := ⟨hs'.extBut S _ hSI hS.1, hS.2⟩
    refine set_add (s := { s with heap := h', toks := s.toks + 1 }) hall hxx hS' fun b h2 es2 ep2 hb2 hS2 => ?_
    refine wpAny_pure ⟨plainId_quiet PyProof.Rows.F.plain_set_update_loop _, ih (i + 1) _ _ es2 ep2 (by omega) (hit'.at fun o e => hb2.extBut I o (Ne.symm hSI) e) ((hl.at fun o e => hs'.extBut ax o hne e).at fun o e => hb2.extBut ax o (Ne.symm hSax) e) (insL_ok hall hxx) hS2 fun h3 tk es3 ep3 hk3 hS3 => ?_⟩
    have := hR h3 tk es3 ep3 (fun b o hb1 hb2' e => hk3 b o hb1 hb2' (hb2.extBut b o hb1 (hs'.extBut b o hb2' e))) (by rw [List.drop_eq_getElem_cons hlt]; exact hS3)
    exact this
theorem code_set_new (a : Value) {Q₁ : Value → Shared → Prop}
    (h : Q₁ (.ref s.heap.objs.size) { s with heap := s.heap.push { cls := .type "set", dict := none, data := .set #[] 0 (.fresh 0 0 (ledOf w)) } }) :
    codeAny (model prog w) A (.call (.builtin "set.__new__") ⟨[.type "set", a], []⟩) (wants Q₁ E) s := by
  refine codeAny_of_tree ?_
  show wpAny _ A.in1 (do checkBuiltinCall "set.__new__" ⟨[.type "set", a], []⟩; again (.builtin "set.__new__" ⟨[.type "set", a], []⟩)) _ _ s
  refine wpAny_bind (wpAny_of_eq (PySem.F.newCall_set_1 a) (wpAny_pure ⟨plainId_quiet PySem.F.plain_set_new _, codeAny_builtin PySem.F.entry_set_new ?_⟩))
  rw [Around.under_plainId PySem.F.plain_set_new _]
  unfold Builtin.«set.__new__» Builtin.Frozenset.newClass
  have hsub := sub_set_self
  obtain ⟨hp, g, d, tk, os⟩ := s
  dsimp only
  wp_walk
  refine wpAny_askSetting (wpAny_pure ?_)
  dsimp only
  simp only [newObj]
  refine wpAny_bind (wpAny_alloc (wpAny_pure ?_))
  exact wpAny_pure h
end
end Mine
end
section
set_option maxRecDepth 100000
namespace Mine
open PySem
section
variable {prog : Program} {w : World} {A : Around} {E : Value → Shared → Prop} {s : Shared}
set_option maxHeartbeats 3200000 in
theorem call_set {l : Addr} {items : Array Value} {ns : List Int} {Q : Value → Shared → Prop}
    (hh : A.handled = none) (hl : s.heap.IsList l items) (hi : PyProof.Rows.IntsAre items.toList ns) (hx : ∀ x ∈ ns, x = 0 ∨ x = 1 ∨ x = 2)
    (h : ∀ (h' : Heap) (tk : Nat) es ep, SetSt (ledOf w) h' s.heap.objs.size (foldI [] ns) es ep →
      (∀ b o, s.heap.get? b = some o → h'.get? b = some o) → Q (.ref s.heap.objs.size) { s with heap := h', toks := tk }) :
    wpAny (model prog w) A (call (.type "set") [.ref l]) Q E s := by
  obtain ⟨c, tl, hmro⟩ := PySem.F.called_set.mro
  have hmade := PySem.F.called_set.made
  have hsub := PySem.F.called_set.sub
  refine wpAny_call (codeAny_of_tree ?_)
  show wpAny _ _ (callAny (.type "set") _) _ _ _
  refine wpAny_pure ⟨Code.quiet_builtin _ (by decide +kernel), codeAny_builtin PySem.F.entry_type_call ?_⟩
  rw [Around.under_plain (weight_type_call_type "set" [.ref l] []) rfl]
  have h1 := PySem.F.called_set.notType
  have h2 := PySem.F.called_set.canCreate
  have hct := PySem.F.typeCall_set_1 (.ref l)
  have pk0 := And.intro hi hx
  clear hi hx
  repeat (any_goals (first | assumption | wp_step))
  refine codeAny_mono (code_set_new (.ref l) (E := E) (Q₁ := fun obj s₁ => obj = .ref s.heap.objs.size ∧ s₁ = { s with heap := s.heap.push { cls := .type "set", dict := none, data := .set #[] 0 (.fresh 0 0 (ledOf w)) } }) ⟨rfl, rfl⟩) fun r s₁ hr => ?_
  cases r with
  | error e => exact hr
  | ok fl =>
    cases fl with
    | ret obj =>
      obtain ⟨rfl, rfl⟩ := hr
      have hS : (s.heap.push { cls := .type "set", dict := none, data := .set #[] 0 (.fresh 0 0 (ledOf w)) }).get? s.heap.objs.size = some { cls := .type "set", dict := none, data := .set #[] 0 (.fresh 0 0 (ledOf w)) } := Heap.get?_push_size _ rfl
      have hT : Shared.TypeIs { s with heap := s.heap.push { cls := .type "set", dict := none, data := .set #[] 0 (.fresh 0 0 (ledOf w)) } } (.ref s.heap.objs.size) "set" := ⟨_, hS, rfl⟩
      have hli := PySem.F.called_set.init.lookup
      have hbi := PySem.F.called_set.init.bind (.ref s.heap.objs.size)
      repeat (any_goals (first | assumption | wp_step))
      refine codeAny_mono (codeAny_call_builtin (R := wants (fun r s₂ => r = .none ∧ ∃ h' tk es ep, s₂ = { s with heap := h', toks := tk } ∧
          SetSt (ledOf w) h' s.heap.objs.size (foldI [] ns) es ep ∧
          (∀ b o, s.heap.get? b = some o → h'.get? b = some o)) E) PySem.F.called_set.init.plain PySem.F.entry_set_init (check_set_init_1 hT ?_)) fun r₂ s₂ hr₂ => ?_
      · obtain ⟨ol, hol, hcl, nl, hdl⟩ := hl
        obtain ⟨ocls, odict, odata, oslots⟩ := ol
        simp only at hcl hdl
        subst hcl; subst hdl
        have hol' : (s.heap.push { cls := .type "set", dict := none, data := .set #[] 0 (.fresh 0 0 (ledOf w)) }).get? l = some { cls := .type "list", dict := odict, data := .seq items nl, slots := oslots } := Heap.get?_push_of_some _ hol
        have hsls := PySem.F.sub_list_set
        have hslf := PySem.F.sub_list_frozenset
        have hne : (Value.type "list" == Value.type "dict") = false := by decide
        have hl1 : (s.heap.push { cls := .type "set", dict := none, data := .set #[] 0 (.fresh 0 0 (ledOf w)) }).IsList l items := ⟨_, hol', rfl, nl, rfl⟩
        unfold Builtin.«set.__init__» noKeywords Builtin.Frozenset.updateFrom
        have pk := And.intro pk0 (And.intro hS (And.intro hol (And.intro h1 (And.intro h2 (And.intro hct (And.intro hli hbi))))))
        clear pk0 hS hol h1 h2 hct hli hbi
        generalize hPI : pyIter = PI
        wp_walk
        obtain ⟨⟨hi, hx⟩, hS, hol, h1, h2, hct, hli, hbi⟩ := pk
        subst hPI
        refine wpAny_pyIter_list hl1 ?_
        refine wpAny_bind (wpAny_runValue ?_)
        have hlS : l < s.heap.objs.size := Heap.lt_size hol
        have hh3 : A.in1.in1.handled = none := by simp [hh]
        have hneI : l ≠ (s.heap.push { cls := .type "set", dict := none, data := .set #[] 0 (.fresh 0 0 (ledOf w)) }).objs.size := by
          rw [Heap.size_push]; exact Nat.ne_of_lt (Nat.lt_succ_of_lt hlS)
        have hSI : s.heap.objs.size ≠ (s.heap.push { cls := .type "set", dict := none, data := .set #[] 0 (.fresh 0 0 (ledOf w)) }).objs.size := by
          rw [Heap.size_push]; exact Nat.ne_of_lt (Nat.lt_succ_self _)
        have hS3 : SetSt (ledOf w) ((s.heap.push { cls := .type "set", dict := none, data := .set #[] 0 (.fresh 0 0 (ledOf w)) }).push { cls := .type "list_iterator", data := .fields #[.ref l, .int 0 0] }) s.heap.objs.size [] #[] 0 :=
          ⟨Heap.get?_push_of_some ({ cls := .type "list_iterator", data := .fields #[.ref l, .int 0 0] } : Obj) hS, .nil⟩
        refine set_loop (led := ledOf w) (items := items) (xs := ns) (ax := l) hh3 hneI hSI (Nat.ne_of_gt hlS) hi hx ns.length 0 _ [] #[] 0 (by omega) ?hA ?hB (by decide) ?hS0 ?hR
        case hS0 => exact hS3
        case hA => exact ⟨_, Heap.get?_push_size _ rfl, rfl, rfl⟩
        case hB => exact hl1.push _
        intro h' tk es' ep' hk hS'
        show wpAny _ _ _ _ _ _
        refine wpAny_pure ?_
        show wpAny _ _ (ret Value.none) _ _ _
        refine wpAny_pure ⟨rfl, h', tk, es', ep', rfl, hS', fun b o e => ?_⟩
        have hb := Heap.lt_size e
        refine hk b o (Nat.ne_of_lt hb) ?_ (Heap.get?_push_of_some _ (Heap.get?_push_of_some _ e))
        rw [Heap.size_push]; exact Nat.ne_of_lt (Nat.lt_succ_of_lt hb)
      · cases r₂ with
        | error e => exact hr₂
        | ok fl₂ =>
          cases fl₂ with
          | ret r =>
            obtain ⟨rfl, h', tk, es', ep', rfl, hS', hk'⟩ := hr₂
            repeat (any_goals (first | assumption | wp_step))
            exact h _ _ _ _ hS' hk'
          | _ => exact hr₂.elim
    | _ => exact hr.elim
end
end Mine
end
section
set_option maxRecDepth 100000
namespace Mine
open PySem
namespace SF
theorem slot_next : Slot "set_iterator" "__next__" "set_iterator.__next__" :=
  .of (owner := "set_iterator") (n := "__next__") (by rw [typeLookup_type, builtinLookup_eq_fast]; kernel_rfl) (by decide +kernel) (by decide +kernel) (by decide +kernel)
    (by first | exact .inl (by decide +kernel) | exact .inr (by decide +kernel)) (by rw [isSubtype_type]; kernel_rfl)
theorem entry_next : entryFor table "set_iterator.__next__" = some Builtin.«set_iterator.__next__» := entryFor_of_tree (by kernel_rfl)
theorem args_next (a : Value) : argsOk "set_iterator.__next__" ⟨[a], []⟩ := by unfold argsOk; kernel_rfl
theorem slot_self : Slot "set_iterator" "__iter__" "set_iterator.__iter__" :=
  .of (owner := "set_iterator") (n := "__iter__") (by rw [typeLookup_type, builtinLookup_eq_fast]; kernel_rfl) (by decide +kernel) (by decide +kernel) (by decide +kernel)
    (by first | exact .inl (by decide +kernel) | exact .inr (by decide +kernel)) (by rw [isSubtype_type]; kernel_rfl)
theorem entry_self : entryFor table "set_iterator.__iter__" = some Builtin.«dict_keyiterator.__iter__» :=
  entryFor_alias (id' := "dict_keyiterator.__iter__") (by kernel_rfl) rfl (by decide +kernel) (by kernel_rfl)
theorem args_self (a : Value) : argsOk "set_iterator.__iter__" ⟨[a], []⟩ := by unfold argsOk; kernel_rfl
theorem entry_iter : entryFor table "set.__iter__" = some Builtin.«frozenset.__iter__» :=
  entryFor_alias (id' := "frozenset.__iter__") (by kernel_rfl) rfl (by decide +kernel) (by kernel_rfl)
end SF
theorem erase_perm {α : Type} : ∀ (l : List α) (i : Nat) (h : i < l.length), (l[i] :: l.eraseIdx i).Perm l
  | x :: l, 0, _ => .refl _
  | x :: l, i + 1, h => by
    have hi' : i < l.length := by simpa using h
    have ih := erase_perm l i hi'
    simp only [List.getElem_cons_succ, List.eraseIdx_cons_succ]
    exact (List.Perm.swap x l[i] (l.eraseIdx i)).trans (ih.cons x)
theorem pick_go {α : Type} (next : Nat → Nat) : ∀ (fuel k : Nat) (left : List α) (out : Array α), fuel = left.length → (pickOrder.go next fuel k left out).toList.Perm (out.toList ++ left)
  | 0, k, left, out, h => by
    have : left = [] := List.eq_nil_of_length_eq_zero h.symm
    subst this
    simp [pickOrder.go]
  | fuel + 1, k, left, out, h => by
    unfold pickOrder.go
    have hlt : next k % left.length < left.length := Nat.mod_lt _ (by omega)
    rw [List.getElem?_eq_getElem hlt]
    dsimp only
    refine (pick_go next fuel (k + 1) _ _ (by rw [List.length_eraseIdx, if_pos hlt]; omega)).trans ?_
    rw [Array.toList_push, List.append_assoc]
    exact List.Perm.append_left _ (by simpa using erase_perm left _ hlt)
noncomputable def ordOf (w : World) (a : Addr) (ep : Nat) (es : Array (Int × Value)) : Array (Int × Value) := if w.params.followText "set-order" = true then pickOrder (w.params.setOrder a ep) es else es
theorem ordOf_perm (w : World) (a : Addr) (ep : Nat) (es : Array (Int × Value)) : (ordOf w a ep es).toList.Perm es.toList := by
  unfold ordOf
  split
  · unfold pickOrder
    simpa using pick_go (w.params.setOrder a ep) es.size 0 es.toList #[] (by simp)
  · exact .refl _
theorem below_tab {led : Bool} {l : List Int} (hl : l ∈ allL) : SetTable.below (tab led l).place 0 = 0 ∧ ∀ (i : Nat) (h : i < l.length), SetTable.below (tab led l).place (l[i].toNat + 1) = i + 1 ∧ (tab led l).place[i]? = some l[i].toNat := by
  simp only [allL, List.mem_cons, List.not_mem_nil, or_false] at hl
  rcases hl with rfl | rfl | rfl | rfl | rfl | rfl | rfl | rfl
  · exact ⟨by kernel_rfl, fun i h => by cases h⟩
  · exact ⟨by kernel_rfl, fun i h => by match i, h with | 0, _ => exact ⟨by kernel_rfl, by kernel_rfl⟩⟩
  · exact ⟨by kernel_rfl, fun i h => by match i, h with | 0, _ => exact ⟨by kernel_rfl, by kernel_rfl⟩⟩
  · exact ⟨by kernel_rfl, fun i h => by match i, h with | 0, _ => exact ⟨by kernel_rfl, by kernel_rfl⟩⟩
  · exact ⟨by kernel_rfl, fun i h => by match i, h with | 0, _ => exact ⟨by kernel_rfl, by kernel_rfl⟩ | 1, _ => exact ⟨by kernel_rfl, by kernel_rfl⟩⟩
  · exact ⟨by kernel_rfl, fun i h => by match i, h with | 0, _ => exact ⟨by kernel_rfl, by kernel_rfl⟩ | 1, _ => exact ⟨by kernel_rfl, by kernel_rfl⟩⟩
  · exact ⟨by kernel_rfl, fun i h => by match i, h with | 0, _ => exact ⟨by kernel_rfl, by kernel_rfl⟩ | 1, _ => exact ⟨by kernel_rfl, by kernel_rfl⟩⟩
  · exact ⟨by kernel_rfl, fun i h => by match i, h with | 0, _ => exact ⟨by kernel_rfl, by kernel_rfl⟩ | 1, _ => exact ⟨by kernel_rfl, by kernel_rfl⟩ | 2, _ => exact ⟨by kernel_rfl, by kernel_rfl⟩⟩
section
variable {prog : Program} {w : World} {A : Around} {E : Value → Shared → Prop} {s : Shared}
theorem SetSt.fits {led : Bool} {h : Heap} {a : Addr} {l : List Int} {es : Array (Int × Value)} {ep : Nat} (hl : l ∈ allL) (x : SetSt led h a l es ep) : (tab led l).fits es.size = true := tab_fits hl (by rw [← x.2.length, Array.length_toList])
theorem setState_tab {led : Bool} {a : Addr} {l : List Int} {es : Array (Int × Value)} {ep : Nat} {Q : (Array (Int × Value) × Nat × SetTable) → Shared → Prop} (hl : l ∈ allL) (x : SetSt led s.heap a l es ep) (h : Q (es, ep, tab led l) s) : wpAny (model prog w) A (setState a) Q E s :=
  wpAny_setState_of x.1 rfl (x.fits hl) h
noncomputable def slotOk (l : List Int) (led : Bool) (f i : Nat) : Prop := SetTable.below (tab led l).place f = i
theorem setNext_sim {a : Addr} {l : List Int} {es : Array (Int × Value)} {ep f i : Nat} {Q : Option (Value × Nat) → Shared → Prop} (hl : l ∈ allL) (x : SetSt (ledOf w) s.heap a l es ep) (hf : ledOf w = true → slotOk l (ledOf w) f i)
    (hi : ∀ e f', (ordOf w a ep es)[i]? = some e → (ledOf w = true → slotOk l (ledOf w) f' (i + 1)) → Q (some (e.2, f')) s) (hn : (ordOf w a ep es)[i]? = none → Q none s) : wpAny (model prog w) A (setNext a f i ep) Q E s := by
  unfold setNext
  refine wpAny_bind (setState_tab hl x ?_)
  dsimp only
  unfold setsByText
  refine wpAny_bind (wpAny_bind (wpAny_askSetting (wpAny_pure ?_)))
  have hsz : es.size = l.length := by rw [← x.2.length, Array.length_toList]
  by_cases hb : w.params.followText "set-order" = true
  · refine wpAny_ite_split (fun _ => ?_) (fun hab => absurd hb hab)
    have ho : ordOf w a ep es = pickOrder (w.params.setOrder a ep) es := by unfold ordOf; rw [if_pos hb]
    have hled : ledOf w = false := by unfold ledOf; rw [hb]; rfl
    refine wpAny_ite_split (fun hab => absurd hab (by simp)) (fun _ => ?_)
    refine wpAny_bind ?_
    unfold setWalk
    refine wpAny_bind (setState_tab hl x ?_)
    dsimp only
    unfold setsByText
    refine wpAny_bind (wpAny_bind (wpAny_askSetting (wpAny_pure ?_)))
    refine wpAny_ite_split (fun _ => ?_) (fun hab => absurd hb hab)
    refine wpAny_bind (wpAny_askSetting (wpAny_pure ?_))
    refine wpAny_pure ?_
    show Q (Option.map _ (pickOrder (w.params.setOrder a ep) es)[i]?) s
    rw [← ho]
    cases hq : (ordOf w a ep es)[i]? with
    | none => exact hn hq
    | some e => exact hi e f hq fun h => by rw [hled] at h; cases h
  · have hb' : w.params.followText "set-order" = false := by simpa using hb
    refine wpAny_ite_split (fun hab => absurd hab hb) (fun _ => ?_)
    have ho : ordOf w a ep es = es := by unfold ordOf; rw [if_neg hb]
    have hled : ledOf w = true := by unfold ledOf; rw [hb']; rfl
    rw [ho] at hi hn
    rw [hled] at hf hi
    have hf' := hf rfl
    obtain ⟨b0, b1⟩ := below_tab (led := true) hl
    have htab : tab (ledOf w) l = tab true l := by rw [hled]
    rw [htab]
    refine wpAny_ite_split (fun hab => absurd hab (by exact Bool.false_ne_true)) (fun _ => ?_)
    refine wpAny_bind ?_
    show wpAny _ _ (if (!(tab true l).led && !es.isEmpty) = true then unsupported _ else pure ()) _ _ _
    refine wpAny_ite_split (fun hab => absurd hab (by exact Bool.false_ne_true)) (fun _ => ?_)
    refine wpAny_pure (wpAny_pure ?_)
    unfold slotOk at hf'
    rw [hf']
    by_cases hlt : i < l.length
    · have hlt' : i < es.size := by omega
      obtain ⟨b2, b3⟩ := b1 i hlt
      rw [b3, Array.getElem?_eq_getElem hlt']
      exact hi es[i] _ (Array.getElem?_eq_getElem hlt') fun _ => b2
    · rw [Array.getElem?_eq_none (by omega)]
      exact hn (Array.getElem?_eq_none (by omega))
end
end Mine
end
section
set_option maxRecDepth 100000
namespace Mine
open PySem
variable {W : Wd} {n : Nat} {sc : Scope}
noncomputable def setIterObj (a : Addr) (f i n ep : Nat) : Obj := { cls := .type "set_iterator", data := .fields #[rawInt f, rawInt i, .ref a, rawInt n, rawInt ep] }
section
variable {prog : Program} {w : World} {A : Around} {E : Value → Shared → Prop} {s : Shared}
theorem setEntries_tab {a : Addr} {l : List Int} {es : Array (Int × Value)} {ep : Nat} {led : Bool} {Q : Array (Int × Value) → Shared → Prop} (hl : l ∈ allL) (x : SetSt led s.heap a l es ep) (h : Q es s) : wpAny (model prog w) A (setEntries a) Q E s := by
  unfold setEntries
  exact wpAny_bind (setState_tab hl x (wpAny_pure h))
theorem pyIter_set {a : Addr} {l : List Int} {es : Array (Int × Value)} {ep : Nat} {Q : Value → Shared → Prop} (hl : l ∈ allL) (x : SetSt (ledOf w) s.heap a l es ep)
    (hQ : Q (.ref s.heap.objs.size) { s with heap := s.heap.push (setIterObj a 0 0 es.size ep) }) : wpAny (model prog w) A (pyIter (.ref a)) Q E s := by
  have hT : s.TypeIs (.ref a) "set" := ⟨_, x.1, rfl⟩
  refine wpAny_pyIter_slot hT PySem.F.slot_set_iter (wpAny_call_entry PySem.F.slot_set_iter hT SF.entry_iter ?_ (PySem.F.args_set_iter_1 _))
  unfold Builtin.«frozenset.__iter__» Builtin.Frozenset.slot0 slotArgs
  simp only [List.isEmpty_nil, Bool.not_true, Bool.false_eq_true, ↓reduceIte, bind_assoc, List.length_nil, bne_self_eq_false]
  unfold Builtin.Frozenset.addrOf Builtin.Frozenset.sizeOf
  refine wpAny_bind (wpAny_pure ?_)
  try dsimp only
  refine wpAny_bind (wpAny_pure ?_)
  refine wpAny_bind (wpAny_bind (setEntries_tab hl x (wpAny_pure ?_)))
  unfold setDrawn setsByText
  refine wpAny_bind (wpAny_bind (setState_tab hl x ?_))
  dsimp only
  refine wpAny_bind (wpAny_bind (wpAny_askSetting (wpAny_pure ?_)))
  refine wpAny_pure ?_
  refine wpAny_ite_split (fun hab => absurd hab (by
    intro h
    have := (Bool.and_eq_true_iff.mp h).2
    exact Bool.false_ne_true this)) (fun _ => ?_)
  refine wpAny_bind (wpAny_pure ?_)
  unfold setEpoch
  refine wpAny_bind (wpAny_bind (setState_tab hl x (wpAny_pure ?_)))
  refine wpAny_bind (wpAny_newObj_type (wpAny_pure ⟨_, rfl, "set_iterator", _, ⟨_, Heap.get?_push_size _ rfl, rfl⟩, SF.slot_next.lookup, ?_⟩))
  exact hQ
theorem pyNext_set_item {a I : Addr} {l : List Int} {es : Array (Int × Value)} {ep f i : Nat} {Q : Option Value → Shared → Prop} (hl : l ∈ allL) (x : SetSt (ledOf w) s.heap a l es ep) (hI : s.heap.get? I = some (setIterObj a f i es.size ep)) (hf : ledOf w = true → slotOk l (ledOf w) f i)
    {e : Int × Value} (he : (ordOf w a ep es)[i]? = some e) (hQ : ∀ h' f', Heap.SameBut I s.heap h' → h'.get? I = some (setIterObj a f' (i + 1) es.size ep) → (ledOf w = true → slotOk l (ledOf w) f' (i + 1)) → Q (some e.2) { s with heap := h' }) : wpAny (model prog w) A (pyNext (.ref I)) Q E s := by
  have hT : s.TypeIs (.ref I) "set_iterator" := ⟨_, hI, rfl⟩
  unfold pyNext
  refine wpAny_bind (wpAny_attempt (wpAny_callSpecial?_slot (name := Str.ofString "__next__") hT SF.slot_next (wpAny_call_entry SF.slot_next hT SF.entry_next ?_ (SF.args_next _))))
  unfold Builtin.«set_iterator.__next__» slotArgs
  simp only [List.isEmpty_nil, Bool.not_true, Bool.false_eq_true, ↓reduceIte, bind_assoc, List.length_nil, bne_self_eq_false]
  refine wpAny_bind (wpAny_pure ?_)
  try dsimp only
  refine wpAny_bind (wpAny_fieldsOf hI rfl ?_)
  dsimp only [rawInt]
  refine wpAny_bind (setEntries_tab hl x ?_)
  refine wpAny_ite_split (fun hab => absurd hab (by simp)) (fun _ => ?_)
  simp only [Int.toNat_natCast]
  refine wpAny_bind (setNext_sim hl x hf (fun e' f' h1 h2 => ?_) fun h1 => by rw [he] at h1; cases h1)
  rw [he] at h1; cases h1
  dsimp only
  refine wpAny_bind (wpAny_setField hI rfl (by simp) ?_)
  have hI2 : (s.heap.update I (Obj.mapFields (·.setIfInBounds 0 (rawInt (f' : Int))))).get? I = some (setIterObj a f' i es.size ep) := by
    rw [Heap.get?_update_self _ hI rfl]; rfl
  refine wpAny_bind (wpAny_setField (s := { s with heap := s.heap.update I (Obj.mapFields (·.setIfInBounds 0 (rawInt (f' : Int)))) }) hI2 rfl (by simp) ?_)
  have hI3 : ((s.heap.update I (Obj.mapFields (·.setIfInBounds 0 (rawInt (f' : Int))))).update I (Obj.mapFields (·.setIfInBounds 1 (rawInt ((i : Int) + 1))))).get? I = some (setIterObj a f' (i + 1) es.size ep) := by
    rw [Heap.get?_update_self _ hI2 rfl]; rfl
  exact wpAny_pure ⟨_, rfl, wpAny_pure (hQ _ f' ((Heap.SameBut.update ..).trans (Heap.SameBut.update ..)) hI3 h2)⟩
theorem isSub_stop : isSubtype (.type "StopIteration") (.type "StopIteration") = pure true := isSubtype_stop
theorem pyNext_set_end {a I : Addr} {l : List Int} {es : Array (Int × Value)} {ep f i : Nat} {Q : Option Value → Shared → Prop} (hh : A.handled = none) (hl : l ∈ allL) (x : SetSt (ledOf w) s.heap a l es ep) (hI : s.heap.get? I = some (setIterObj a f i es.size ep)) (hf : ledOf w = true → slotOk l (ledOf w) f i)
    (he : (ordOf w a ep es)[i]? = none) (hQ : ∀ h', Heap.ExtBut I s.heap h' → Q none { s with heap := h' }) : wpAny (model prog w) A (pyNext (.ref I)) Q E s := by
  have hT : s.TypeIs (.ref I) "set_iterator" := ⟨_, hI, rfl⟩
  unfold pyNext
  refine wpAny_bind (wpAny_attempt (wpAny_callSpecial?_slot (name := Str.ofString "__next__") hT SF.slot_next (wpAny_call_entry SF.slot_next hT SF.entry_next ?_ (SF.args_next _))))
  unfold Builtin.«set_iterator.__next__» slotArgs
  simp only [List.isEmpty_nil, Bool.not_true, Bool.false_eq_true, ↓reduceIte, bind_assoc, List.length_nil, bne_self_eq_false]
  refine wpAny_bind (wpAny_pure ?_)
  try dsimp only
  refine wpAny_bind (wpAny_fieldsOf hI rfl ?_)
  dsimp only [rawInt]
  refine wpAny_bind (setEntries_tab hl x ?_)
  refine wpAny_ite_split (fun hab => absurd hab (by simp)) (fun _ => ?_)
  simp only [Int.toNat_natCast]
  refine wpAny_bind (setNext_sim hl x hf (fun e' f' h1 h2 => by rw [he] at h1; cases h1) fun _ => ?_)
  dsimp only
  refine wpAny_bind (wpAny_setField hI rfl (by simp) ?_)
  show wpAny _ _ (newExc (.type "StopIteration") [] >>= _) _ _ _
  refine wpAny_bind ?_
  simp only [newExc, newTuple]
  refine wpAny_bind (wpAny_newObj_type ?_ (by size_fits))
  refine wpAny_bind (m := firstArgMember _ _) (wpAny_of_eq (a := Value.none) (by first | rfl | (simp only [firstArgMember]; rfl)) ?_)
  refine wpAny_newObj_type ?_ (by size_fits)
  simp only [raiseNew]
  refine wpAny_bind (wpAny_handled ?_)
  rw [show A.in1.handled = none from hh]
  refine wpAny_bind (wpAny_pure (wpAny_throw ?_))
  refine wpAny_bind (wpAny_isInstance (T := "StopIteration") (b := true) ⟨_, Heap.get?_push_size _ rfl, rfl⟩ isSubtype_stop ?_)
  exact wpAny_pure (hQ _ (((Heap.SameBut.update ..).extBut.push _).push _))
theorem pyIter_setiter {a I : Addr} {f i n ep : Nat} {Q : Value → Shared → Prop} (hI : s.heap.get? I = some (setIterObj a f i n ep)) (h : Q (.ref I) s) : wpAny (model prog w) A (pyIter (.ref I)) Q E s := by
  have hT : s.TypeIs (.ref I) "set_iterator" := ⟨_, hI, rfl⟩
  refine wpAny_pyIter_slot hT SF.slot_self (wpAny_call_entry SF.slot_self hT SF.entry_self ?_ (SF.args_self _))
  show wpAny _ _ (ret (.ref I)) _ _ s
  exact wpAny_pure ⟨_, rfl, "set_iterator", _, hT, SF.slot_next.lookup, h⟩
theorem hint_set {a : Addr} {Q : Bool → Shared → Prop} (hT : s.TypeIs (.ref a) "set") (h : Q false s) : wpAny (model prog w) A (Builtin.List.listLengthHint (.ref a)) Q E s := by
  unfold Builtin.List.listLengthHint
  refine wpAny_bind (wpAny_specialOf hT PySem.F.slot_set_len.lookup ?_)
  generalize hid : ("set.__len__" : String) = id0
  wp_delta
  rw [show splitId id0 = some ("set", "__len__") from by subst hid; decide +kernel]
  subst hid
  refine wpAny_bind (wpAny_isInstance (T := "set") (b := true) hT (by rw [isSubtype_type]; kernel_rfl) ?_)
  refine wpAny_ite_split (fun hab => absurd hab (by decide)) (fun _ => ?_)
  refine wpAny_ite_split (fun _ => ?_) (fun hab => absurd (by decide +kernel) hab)
  refine wpAny_bind (wpAny_typeOf hT ?_)
  exact wpAny_pure h
end
end Mine
end
section
set_option maxRecDepth 100000
namespace Mine
open PySem
variable {W : Wd} {n : Nat} {sc : Scope}
theorem set_src {prog : Program} {w : World} {a : Addr} {l : List Int} {es : Array (Int × Value)} {ep : Nat} (hl : l ∈ allL) :
    PySem.W.KdlSrc prog w "set" a a es.size (fun i v => ∃ e, (ordOf w a ep es)[i]? = some e ∧ v = e.2) (fun h => SetSt (ledOf w) h a l es ep) where
  type := fun _ x => ⟨_, x.1, rfl⟩
  there := fun _ x => ⟨Heap.lt_size x.1, Heap.lt_size x.1⟩
  keep := fun _ _ x hk => ⟨hk a (.inl rfl) _ x.1, x.2⟩
  notList := by decide
  notTuple := by decide
  hint := fun _ _ _ _ x hq => hint_set ⟨_, x.1, rfl⟩ hq
  iter := fun A s hh x => by
    have hne : a ≠ s.heap.objs.size := Nat.ne_of_lt (Heap.lt_size x.1)
    have hsz : (ordOf w a ep es).size = es.size := by
      rw [← Array.length_toList, ← Array.length_toList]; exact (ordOf_perm w a ep es).length_eq
    refine ⟨setIterObj a 0 0 es.size ep, fun i h => (∃ f, h.get? s.heap.objs.size = some (setIterObj a f i es.size ep) ∧ (ledOf w = true → slotOk l (ledOf w) f i)) ∧ SetSt (ledOf w) h a l es ep, fun _ _ hq => pyIter_set hl x hq, ⟨fun b hb => by simp at hb; simp [hb], fun i h h' st hk => ?_, fun i s' Q E hi st hQ => ?_, fun s' Q E st hQ => ?_, fun i s' Q E st hQ => ?_⟩, ⟨0, Heap.get?_push_size _ rfl, fun _ => (below_tab hl).1⟩, ⟨Heap.get?_push_of_some _ x.1, x.2⟩⟩
    · obtain ⟨⟨f, h1, h2⟩, h3⟩ := st
      exact ⟨⟨f, hk _ (by simp) _ h1, h2⟩, hk a (by simp) _ h3.1, h3.2⟩
    · obtain ⟨⟨f, h1, h2⟩, h3⟩ := st
      have hlt : i < (ordOf w a ep es).size := by omega
      refine pyNext_set_item hl h3 h1 h2 (Array.getElem?_eq_getElem hlt) fun h' f' hsb hI' hf' => ?_
      exact hQ _ h' s'.toks ⟨_, Array.getElem?_eq_getElem hlt, rfl⟩ ⟨⟨f', hI', hf'⟩, hsb.extBut a _ hne h3.1, h3.2⟩ fun b o hb e => hsb.extBut b o (fun z => hb (by simp [z])) e
    · obtain ⟨⟨f, h1, h2⟩, h3⟩ := st
      exact pyNext_set_end hh hl h3 h1 h2 (Array.getElem?_eq_none (by omega)) fun h' he => hQ h' s'.toks fun b o hb e => he b o (fun z => hb (by simp [z])) e
    · obtain ⟨⟨f, h1, h2⟩, h3⟩ := st
      exact pyIter_setiter h1 hQ
theorem allL_sorted {l : List Int} (hl : l ∈ allL) : l.Pairwise (· ≤ ·) := by
  simp only [allL, List.mem_cons, List.not_mem_nil, or_false] at hl
  rcases hl with rfl | rfl | rfl | rfl | rfl | rfl | rfl | rfl <;> decide
noncomputable def valI : Value → Int
  | .int i _ => i
  | _ => 0
theorem SetEs.vals {es : List (Int × Value)} {l : List Int} (h : SetEs es l) : (∀ e ∈ es, ∃ i t, e.2 = .int i t) ∧ es.map (fun e => valI e.2) = l := by
  induction h with
  | nil => exact ⟨fun e he => (by cases he), rfl⟩
  | cons i t _ ih =>
    refine ⟨fun e he => ?_, ?_⟩
    · rcases List.mem_cons.mp he with rfl | he
      · exact ⟨i, t, rfl⟩
      · exact ih.1 e he
    · rw [List.map_cons, ih.2]; rfl
theorem ints_vals : ∀ {es : List (Int × Value)}, (∀ e ∈ es, ∃ i t, e.2 = .int i t) → PyProof.Rows.IntsAre (es.map (·.2)) (es.map fun e => valI e.2)
  | [], _ => .nil
  | e :: es, h => by
    obtain ⟨i, t, he⟩ := h e List.mem_cons_self
    rw [List.map_cons, List.map_cons, he]
    exact .cons i t (ints_vals fun e' h' => h e' (List.mem_cons_of_mem _ h'))
theorem topr_ints {h : Heap} {α : Al} : ∀ {vs : List Value} {xs : List PyData} {l : List Int}, Reps h α vs xs → ints? xs = some l → PyProof.Rows.IntsAre vs l
  | _, _, _, .nil, e => by cases e; exact .nil
  | _, _, l, .cons (x := x) r rs, e => by
    cases x with
    | int i =>
      obtain ⟨l', e1, e2⟩ := map_eq e
      subst e2
      cases r
      exact .cons _ _ (topr_ints rs e1)
    | _ => cases e
theorem ESim.sortedSet {p p2 pos pos2 : Pos} {e : Expr} {f : PE} (ok : W.Ok) (hx : sc.names.lookup ("sorted" : Str) = some .globalImplicit) (hg : GName W ("sorted" : Str) (.builtin "sorted")) (hx2 : sc.names.lookup ("set" : Str) = some .globalImplicit) (hg2 : GName W ("set" : Str) (.type "set")) (h : ESim W n sc e f) (hst : notStar e = true) :
    ESim W n sc (.Call (.Name "sorted" p) [.Call (.Name "set" p2) [e] [] pos2] [] pos) (eOp1 dSortedSet f) := by
  intro A E env α s vs st v st' Q room hs hf hi he hQ
  obtain ⟨⟨q1, q2⟩, e1, he⟩ := bind_eq he
  obtain ⟨y, e3, he⟩ := bind_eq he
  obtain ⟨z, e5, he⟩ := map_eq he
  cases he
  rw [eval_Call_Name]
  refine wpAny_bind (name_glob ok hs hf hi hx hg rfl ?_)
  refine callWith_one rfl (keepOk_builtin _) ?_
  rw [eval_Call_Name]
  refine wpAny_bind (name_glob ok hs hf hi hx2 hg2 rfl ?_)
  refine callWith_sim (.cons h .nil) (by simp [hst]) (keepOk_type _) room hs hf hi (eSeq_one e1) fun s1 α1 pvs sm1 x1 i1 r1 => ?_
  cases r1 with
  | cons ra rn =>
    cases rn
    have rr := ra.rd i1 e3
    cases rr <;> try cases e5
    rename_i a us kn xs hob hrs
    obtain ⟨l, e6, e7⟩ := bind_eq e5
    split at e7
    · rename_i hall
      cases e7
      have hx3 : ∀ x ∈ l, x = 0 ∨ x = 1 ∨ x = 2 := fun x hx => by
        have := List.all_eq_true.mp hall x hx
        simp only [Bool.and_eq_true, decide_eq_true_eq] at this
        omega
      refine call_set room.hd ⟨_, hob, rfl, _, rfl⟩ (topr_ints hrs e6) hx3 fun h2 tk es ep hS hk => ?_
      have hl := foldI_ok (l := []) (xs := l) (by decide) hx3
      obtain ⟨i2, x2⟩ := i1.grow hk
      refine ⟨i2.base, ?_⟩
      generalize s1.heap.objs.size = a2 at hS
      show wpAny _ A (PySem.call (.builtin "sorted") [.ref a2]) _ _ _
      refine PySem.Calls.call_function_entry PyProof.Rows.kind_sorted PyProof.Rows.plain_sorted PyProof.Rows.entry_sorted (PyProof.Rows.args_sorted1 _) ?_
      unfold Builtin.«sorted»
      refine wpAny_bind (m := checkCount "sorted" 1 1 _) (wpAny_pure ?_)
      have hes3 : es.size ≤ 3 := by rw [← Array.length_toList, hS.2.length]; exact allL_len hl
      refine wpAny_bind (PySem.W.kdu_collect (A := A.in1) (s := { s1 with heap := h2, toks := tk }) (set_src hl) room.hd hS (by rw [sizeLine_eq]; omega) fun h' tk' acc hk' hacc => ?_)
      have hal : acc.toList.length = es.size := by rw [Array.length_toList]; exact hacc.1
      have hosz : (ordOf W.w a2 ep es).size = es.size := by
        rw [← Array.length_toList, ← Array.length_toList]; exact (ordOf_perm W.w a2 ep es).length_eq
      have hac : acc.toList = (ordOf W.w a2 ep es).toList.map (·.2) := by
        refine List.ext_getElem? fun j => ?_
        by_cases hj : j < es.size
        · have hj1 : j < acc.toList.length := by omega
          have hj2 : j < acc.size := by omega
          obtain ⟨e, he1, he2⟩ := hacc.2 j acc[j] (Array.getElem?_eq_getElem hj2)
          rw [List.getElem?_map, Array.getElem?_toList, Array.getElem?_toList, he1, Array.getElem?_eq_getElem hj2, he2]; rfl
        · rw [List.getElem?_eq_none (by omega), List.getElem?_eq_none (by rw [List.length_map, Array.length_toList]; omega)]
      obtain ⟨hv1, hv2⟩ := hS.2.vals
      have hperm := ordOf_perm W.w a2 ep es
      have hI : PyProof.Rows.IntsAre acc.toList ((ordOf W.w a2 ep es).toList.map fun e => valI e.2) := by
        rw [hac]; exact ints_vals fun e he => hv1 e (hperm.mem_iff.mp he)
      have hpl : ((ordOf W.w a2 ep es).toList.map fun e => valI e.2).Perm (foldI [] l) := by
        rw [← hv2]; exact hperm.map _
      have hsort : isort ((ordOf W.w a2 ep es).toList.map fun e => valI e.2) = foldI [] l := (isort_uniq hpl.symm (allL_sorted hl)).symm
      refine wpAny_bind (wpAny_newList ?_ (by rw [hal, sizeLine_eq]; omega))
      have hfr : h'.get? h'.objs.size = none := fresh_none _
      obtain ⟨i3, x3⟩ := i2.grow hk'
      refine wpAny_bind (wpAny_holding (sort_here (s := { s1 with heap := h'.push { cls := .type "list", data := .seq acc.toList.toArray }, toks := tk' }) i3 hfr (fun b o e => Heap.get?_push_of_some _ e) (Heap.get?_push_size _ rfl) hI (by omega) fun s3 sm3 x4 i4 r4 => ?_))
      rw [hsort] at r4
      exact wpAny_pure ⟨_, rfl, hQ s3 α1 _ (sm1.trans (same.trans ⟨_, _, rfl⟩ sm3)) (((x1.trans x2).trans x3).trans x4) i4 r4⟩
    · cases e7
end Mine
end
section
namespace Mine
open PySem
variable {W : Wd} {n : Nat} {sc : Scope}
theorem FSim.up {k : Nat} {f : Value} {F : PF} (h : FSim W k f F) (hk : k ≤ n) : FSim W n f F := fun A R s α st args vargs v st' room => h A R s α st args vargs v st' (room.le hk)
theorem FnIs.keep {f : Addr} {ps : List Nat} {body : List Stmt} (F : FnIs W f ps sc body) : KeepOk W (.ref f) := by
  obtain ⟨o, fd, ho, hd, _⟩ := F.obj
  exact keepOk_fn ho hd
theorem ESim.methF {e : Expr} {name : Str} {apos pos : Pos} {f : PE} {es : List Expr} {fs : List PE} {a : Addr} {F : PF} {ps : List Nat} {msc : Scope} {body : List Stmt} (ok : W.Ok) (co : ClsOk W) (h : ESim W n sc e f) (hb : ∀ env whole, attributeBase e name env whole = whole)
    (hm : PySem.W.findIn W.K (.ref W.C) name = some (some (.ref a))) (hfn : PySem.W.typeIn W.K (.ref a) = some (.type "function")) (fi : FnIs W a ps msc body) (hF : FSim W n (.ref a) F) (hs' : ESims W n sc es fs) (hst : es.all notStar = true)
    (hlen : es.length < 30) (hline : (apos.endLine == pos.line) = true) (hname : (attrCodes.all fun k => decide (nm k ≠ name)) = true) : ESim W n sc (.Call (.Attribute e name apos) es [] pos) (eMeth F f fs) := by
  obtain ⟨o, fd, ho, hd, _⟩ := fi.obj
  exact ESim.meth ok co h hb hm hfn ho hd hF hs' hst hlen hline hname
theorem swaps_true {e : Expr} {g : List Comprehension} {s : Scope} {p pos : Pos} {t : Str} {line : Nat} {env : Env} (h : env.scope = sc)
    (hb : (((if sc.kind.isAnnotationScope then ScopeKind.function else sc.kind) == .function) && (sc.names.lookup t == some .local) && (pos.line == p.line) && !(s.names.any fun (n, k) => n == t && (k == .local || k == .cell))) = true) : swapsWith (.ListComp e g s p) (some (.Name t pos)) line env = pure true := by
  subst h
  show pure _ = pure true
  rw [← hb]; rfl
theorem htl_one {k : Nat} (h : sc.names.lookup (nm k) = some .local) : ∀ j ∈ (Tgt.one k).ks, sc.names.lookup (nm j) = some .local := fun j hj => by rw [List.mem_singleton.mp hj]; exact h
theorem htl_two {k l : Nat} (h : sc.names.lookup (nm k) = some .local) (h' : sc.names.lookup (nm l) = some .local) : ∀ j ∈ (Tgt.two k l).ks, sc.names.lookup (nm j) = some .local := fun j hj => by
  rcases List.mem_cons.mp hj with rfl | hj
  · exact h
  · rw [List.mem_singleton.mp hj]; exact h'
theorem glob_c {x : Str} (h : sc.names.lookup x = some .globalImplicit) : sc.names.lookup x = some .globalImplicit := h
noncomputable def stAt (l : List Stmt) (i : Nat) : Stmt := l.getD i (.Pass ⟨0, 0, 0, 0⟩)
noncomputable def bodyS : Stmt → List Stmt
  | .FunctionDef _ _ b .. => b
  | .ClassDef _ _ _ b .. => b
  | _ => []
noncomputable def scopeS : Stmt → Scope
  | .FunctionDef _ _ _ _ _ _ s .. => s
  | _ => default
end Mine
end
section
set_option maxRecDepth 100000
namespace Mine
open PySem
noncomputable abbrev pw : Program := PySem.Challenge.pw_no0305_01
structure TopOk (W : Wd) : Prop where
  ok : W.Ok
  co : ClsOk W
  if_least : FnIs W 21 [0] (scopeS (stAt pw.main.body 1)) (bodyS (stAt pw.main.body 1))
  if_greatest : FnIs W 28 [0] (scopeS (stAt pw.main.body 2)) (bodyS (stAt pw.main.body 2))
  if_size : FnIs W 33 [0] (scopeS (stAt pw.main.body 3)) (bodyS (stAt pw.main.body 3))
  if_next_from : FnIs W 40 [0, 1] (scopeS (stAt pw.main.body 5)) (bodyS (stAt pw.main.body 5))
  if_has : FnIs W 47 [0, 1] (scopeS (stAt pw.main.body 6)) (bodyS (stAt pw.main.body 6))
  if_up_to : FnIs W 52 [0, 4] (scopeS (stAt pw.main.body 8)) (bodyS (stAt pw.main.body 8))
  if_from_on : FnIs W 57 [0, 4] (scopeS (stAt pw.main.body 9)) (bodyS (stAt pw.main.body 9))
  if_without : FnIs W 64 [0, 1] (scopeS (stAt pw.main.body 10)) (bodyS (stAt pw.main.body 10))
  if_meet : FnIs W 71 [0, 5] (scopeS (stAt pw.main.body 11)) (bodyS (stAt pw.main.body 11))
  if_negation : FnIs W 78 [9] (scopeS (stAt pw.main.body 12)) (bodyS (stAt pw.main.body 12))
  if_struck : FnIs W 85 [9, 0] (scopeS (stAt pw.main.body 13)) (bodyS (stAt pw.main.body 13))
  if_said_of : FnIs W 92 [9, 0] (scopeS (stAt pw.main.body 14)) (bodyS (stAt pw.main.body 14))
  im__init__ : FnIs W 106 [13] (scopeS (stAt (bodyS (stAt pw.main.body 16)) 0)) (bodyS (stAt (bodyS (stAt pw.main.body 16)) 0))
  nm__init__ : PySem.W.findIn W.K (.ref W.C) "__init__" = some (some (.ref 106))
  tm__init__ : PySem.W.typeIn W.K (.ref 106) = some (.type "function")
  im_fail : FnIs W 211 [13, 15] (scopeS (stAt (bodyS (stAt pw.main.body 16)) 15)) (bodyS (stAt (bodyS (stAt pw.main.body 16)) 15))
  nm_fail : PySem.W.findIn W.K (.ref W.C) "fail" = some (some (.ref 211))
  tm_fail : PySem.W.typeIn W.K (.ref 211) = some (.type "function")
  im_new_var : FnIs W 113 [13, 14] (scopeS (stAt (bodyS (stAt pw.main.body 16)) 1)) (bodyS (stAt (bodyS (stAt pw.main.body 16)) 1))
  nm_new_var : PySem.W.findIn W.K (.ref W.C) "new_var" = some (some (.ref 113))
  tm_new_var : PySem.W.typeIn W.K (.ref 113) = some (.type "function")
  im_size : FnIs W 120 [13] (scopeS (stAt (bodyS (stAt pw.main.body 16)) 2)) (bodyS (stAt (bodyS (stAt pw.main.body 16)) 2))
  nm_size : PySem.W.findIn W.K (.ref W.C) "size" = some (some (.ref 120))
  tm_size : PySem.W.typeIn W.K (.ref 120) = some (.type "function")
  im_dom : FnIs W 127 [13, 10] (scopeS (stAt (bodyS (stAt pw.main.body 16)) 3)) (bodyS (stAt (bodyS (stAt pw.main.body 16)) 3))
  nm_dom : PySem.W.findIn W.K (.ref W.C) "dom" = some (some (.ref 127))
  tm_dom : PySem.W.typeIn W.K (.ref 127) = some (.type "function")
  im_initial : FnIs W 134 [13, 10] (scopeS (stAt (bodyS (stAt pw.main.body 16)) 4)) (bodyS (stAt (bodyS (stAt pw.main.body 16)) 4))
  nm_initial : PySem.W.findIn W.K (.ref W.C) "initial" = some (some (.ref 134))
  tm_initial : PySem.W.typeIn W.K (.ref 134) = some (.type "function")
  im_low : FnIs W 141 [13, 10] (scopeS (stAt (bodyS (stAt pw.main.body 16)) 5)) (bodyS (stAt (bodyS (stAt pw.main.body 16)) 5))
  nm_low : PySem.W.findIn W.K (.ref W.C) "low" = some (some (.ref 141))
  tm_low : PySem.W.typeIn W.K (.ref 141) = some (.type "function")
  im_high : FnIs W 148 [13, 10] (scopeS (stAt (bodyS (stAt pw.main.body 16)) 6)) (bodyS (stAt (bodyS (stAt pw.main.body 16)) 6))
  nm_high : PySem.W.findIn W.K (.ref W.C) "high" = some (some (.ref 148))
  tm_high : PySem.W.typeIn W.K (.ref 148) = some (.type "function")
  im_has : FnIs W 155 [13, 10, 1] (scopeS (stAt (bodyS (stAt pw.main.body 16)) 7)) (bodyS (stAt (bodyS (stAt pw.main.body 16)) 7))
  nm_has : PySem.W.findIn W.K (.ref W.C) "has" = some (some (.ref 155))
  tm_has : PySem.W.typeIn W.K (.ref 155) = some (.type "function")
  im_is_fixed : FnIs W 162 [13, 10] (scopeS (stAt (bodyS (stAt pw.main.body 16)) 8)) (bodyS (stAt (bodyS (stAt pw.main.body 16)) 8))
  nm_is_fixed : PySem.W.findIn W.K (.ref W.C) "is_fixed" = some (some (.ref 162))
  tm_is_fixed : PySem.W.typeIn W.K (.ref 162) = some (.type "function")
  im_value : FnIs W 169 [13, 10] (scopeS (stAt (bodyS (stAt pw.main.body 16)) 9)) (bodyS (stAt (bodyS (stAt pw.main.body 16)) 9))
  nm_value : PySem.W.findIn W.K (.ref W.C) "value" = some (some (.ref 169))
  tm_value : PySem.W.typeIn W.K (.ref 169) = some (.type "function")
  im_width : FnIs W 176 [13, 10] (scopeS (stAt (bodyS (stAt pw.main.body 16)) 10)) (bodyS (stAt (bodyS (stAt pw.main.body 16)) 10))
  nm_width : PySem.W.findIn W.K (.ref W.C) "width" = some (some (.ref 176))
  tm_width : PySem.W.typeIn W.K (.ref 176) = some (.type "function")
  im_holds : FnIs W 183 [13, 9] (scopeS (stAt (bodyS (stAt pw.main.body 16)) 11)) (bodyS (stAt (bodyS (stAt pw.main.body 16)) 11))
  nm_holds : PySem.W.findIn W.K (.ref W.C) "holds" = some (some (.ref 183))
  tm_holds : PySem.W.typeIn W.K (.ref 183) = some (.type "function")
  im_enter : FnIs W 190 [13, 9, 15, 16] (scopeS (stAt (bodyS (stAt pw.main.body 16)) 12)) (bodyS (stAt (bodyS (stAt pw.main.body 16)) 12))
  nm_enter : PySem.W.findIn W.K (.ref W.C) "enter" = some (some (.ref 190))
  tm_enter : PySem.W.typeIn W.K (.ref 190) = some (.type "function")
  im_strike : FnIs W 197 [13, 9, 15] (scopeS (stAt (bodyS (stAt pw.main.body 16)) 13)) (bodyS (stAt (bodyS (stAt pw.main.body 16)) 13))
  nm_strike : PySem.W.findIn W.K (.ref W.C) "strike" = some (some (.ref 197))
  tm_strike : PySem.W.typeIn W.K (.ref 197) = some (.type "function")
  im_decide : FnIs W 204 [13, 9] (scopeS (stAt (bodyS (stAt pw.main.body 16)) 14)) (bodyS (stAt (bodyS (stAt pw.main.body 16)) 14))
  nm_decide : PySem.W.findIn W.K (.ref W.C) "decide" = some (some (.ref 204))
  tm_decide : PySem.W.typeIn W.K (.ref 204) = some (.type "function")
  im_push : FnIs W 218 [13] (scopeS (stAt (bodyS (stAt pw.main.body 16)) 16)) (bodyS (stAt (bodyS (stAt pw.main.body 16)) 16))
  nm_push : PySem.W.findIn W.K (.ref W.C) "push" = some (some (.ref 218))
  tm_push : PySem.W.typeIn W.K (.ref 218) = some (.type "function")
  im_pop : FnIs W 225 [13, 19] (scopeS (stAt (bodyS (stAt pw.main.body 16)) 17)) (bodyS (stAt (bodyS (stAt pw.main.body 16)) 17))
  nm_pop : PySem.W.findIn W.K (.ref W.C) "pop" = some (some (.ref 225))
  tm_pop : PySem.W.typeIn W.K (.ref 225) = some (.type "function")
  im_depth : FnIs W 232 [13] (scopeS (stAt (bodyS (stAt pw.main.body 16)) 18)) (bodyS (stAt (bodyS (stAt pw.main.body 16)) 18))
  nm_depth : PySem.W.findIn W.K (.ref W.C) "depth" = some (some (.ref 232))
  tm_depth : PySem.W.typeIn W.K (.ref 232) = some (.type "function")
  im_changed : FnIs W 239 [13] (scopeS (stAt (bodyS (stAt pw.main.body 16)) 19)) (bodyS (stAt (bodyS (stAt pw.main.body 16)) 19))
  nm_changed : PySem.W.findIn W.K (.ref W.C) "changed" = some (some (.ref 239))
  tm_changed : PySem.W.typeIn W.K (.ref 239) = some (.type "function")
  if_law_draw : FnIs W 253 [22, 23] (scopeS (stAt pw.main.body 18)) (bodyS (stAt pw.main.body 18))
  if_law_ranges : FnIs W 260 [24] (scopeS (stAt pw.main.body 19)) (bodyS (stAt pw.main.body 19))
  if_law_keeps : FnIs W 267 [1, 11, 4] (scopeS (stAt pw.main.body 20)) (bodyS (stAt pw.main.body 20))
  if_law_against : FnIs W 274 [9] (scopeS (stAt pw.main.body 21)) (bodyS (stAt pw.main.body 21))
  if_law_literal : FnIs W 281 [22, 23] (scopeS (stAt pw.main.body 22)) (bodyS (stAt pw.main.body 22))
  if_law_numbers : FnIs W 286 [22] (scopeS (stAt pw.main.body 23)) (bodyS (stAt pw.main.body 23))
  if_law_said : FnIs W 291 [27, 9] (scopeS (stAt pw.main.body 24)) (bodyS (stAt pw.main.body 24))
  if_law_struck : FnIs W 296 [29, 9, 15, 16] (scopeS (stAt pw.main.body 25)) (bodyS (stAt pw.main.body 25))
  if_law_is_seen : FnIs W 301 [28, 29, 30] (scopeS (stAt pw.main.body 26)) (bodyS (stAt pw.main.body 26))
  if_law_begun : FnIs W 308 [28, 29] (scopeS (stAt pw.main.body 27)) (bodyS (stAt pw.main.body 27))
  if_law_taken_back : FnIs W 315 [28, 29, 23] (scopeS (stAt pw.main.body 28)) (bodyS (stAt pw.main.body 28))
  if_law_deed : FnIs W 320 [22, 28, 29, 23] (scopeS (stAt pw.main.body 29)) (bodyS (stAt pw.main.body 29))
  if_law : FnIs W 325 [33] (scopeS (stAt pw.main.body 30)) (bodyS (stAt pw.main.body 30))
  a_clash : PySem.W.findIn W.K (.ref W.C) "clash" = some none
  a_domains : PySem.W.findIn W.K (.ref W.C) "domains" = some none
  a_firsts : PySem.W.findIn W.K (.ref W.C) "firsts" = some none
  a_is_failed : PySem.W.findIn W.K (.ref W.C) "is_failed" = some none
  a_marks : PySem.W.findIn W.K (.ref W.C) "marks" = some none
  a_news : PySem.W.findIn W.K (.ref W.C) "news" = some none
  a_speaker : PySem.W.findIn W.K (.ref W.C) "speaker" = some none
  a_trail : PySem.W.findIn W.K (.ref W.C) "trail" = some none
  g_least : GName W ("least" : Str) (.ref 21)
  g_greatest : GName W ("greatest" : Str) (.ref 28)
  g_size : GName W ("size" : Str) (.ref 33)
  g_next_from : GName W ("next_from" : Str) (.ref 40)
  g_has : GName W ("has" : Str) (.ref 47)
  g_up_to : GName W ("up_to" : Str) (.ref 52)
  g_from_on : GName W ("from_on" : Str) (.ref 57)
  g_without : GName W ("without" : Str) (.ref 64)
  g_meet : GName W ("meet" : Str) (.ref 71)
  g_negation : GName W ("negation" : Str) (.ref 78)
  g_struck : GName W ("struck" : Str) (.ref 85)
  g_said_of : GName W ("said_of" : Str) (.ref 92)
  g_law_draw : GName W ("_law_draw" : Str) (.ref 253)
  g_law_ranges : GName W ("_law_ranges" : Str) (.ref 260)
  g_law_keeps : GName W ("_law_keeps" : Str) (.ref 267)
  g_law_against : GName W ("_law_against" : Str) (.ref 274)
  g_law_literal : GName W ("_law_literal" : Str) (.ref 281)
  g_law_numbers : GName W ("_law_numbers" : Str) (.ref 286)
  g_law_said : GName W ("_law_said" : Str) (.ref 291)
  g_law_struck : GName W ("_law_struck" : Str) (.ref 296)
  g_law_is_seen : GName W ("_law_is_seen" : Str) (.ref 301)
  g_law_begun : GName W ("_law_begun" : Str) (.ref 308)
  g_law_taken_back : GName W ("_law_taken_back" : Str) (.ref 315)
  g_law_deed : GName W ("_law_deed" : Str) (.ref 320)
  g_law : GName W ("law" : Str) (.ref 325)
  g_size_domains : GName W ("size_domains" : Str) (.ref 33)
  g_has_domains : GName W ("has_domains" : Str) (.ref 47)
  g_Store : GName W ("Store" : Str) (.ref W.C)
  k_Store : PySem.W.keepIn W.K (.ref W.C) = true
  mk_Store : PySem.W.makesIn W.K W.C = true
  g_abs : GName W ("abs" : Str) (.builtin "abs")
  g_len : GName W ("len" : Str) (.builtin "len")
  g_tuple : GName W ("tuple" : Str) (.type "tuple")
  g_sum : GName W ("sum" : Str) (.builtin "sum")
  g_max : GName W ("max" : Str) (.builtin "max")
  g_min : GName W ("min" : Str) (.builtin "min")
  g_range : GName W ("range" : Str) (.type "range")
  g_list : GName W ("list" : Str) (.type "list")
  g_sorted : GName W ("sorted" : Str) (.builtin "sorted")
  g_set : GName W ("set" : Str) (.type "set")
  g_isinstance : GName W ("isinstance" : Str) (.builtin "isinstance")
  g_bool : GName W ("bool" : Str) (.type "bool")
theorem sf_least {W : Wd} (T : TopOk W) : FSim W 1 (.ref 21) f_least := FSim.of T.ok T.if_least (show BlSim W 0 (scopeS (stAt pw.main.body 1)) (bodyS (stAt pw.main.body 1)) (sSeq bf_least) from
    (BlSim.cons (SSim.ret (ESim.item (ESim.item (ESim.var 0 _ rfl (by decide) (.inl (by kernel_rfl)) (by kernel_rfl)) (ESim.cInt _ _ _) rfl) (ESim.cInt _ _ _) rfl))
    BlSim.nil))
theorem sf_greatest {W : Wd} (T : TopOk W) : FSim W 1 (.ref 28) f_greatest := FSim.of T.ok T.if_greatest (show BlSim W 0 (scopeS (stAt pw.main.body 2)) (bodyS (stAt pw.main.body 2)) (sSeq bf_greatest) from
    (BlSim.cons (SSim.ret (ESim.item (ESim.item (ESim.var 0 _ rfl (by decide) (.inl (by kernel_rfl)) (by kernel_rfl)) (ESim.un (ESim.cInt _ _ _) op_neg) rfl) (ESim.cInt _ _ _) rfl))
    BlSim.nil))
theorem sf_size {W : Wd} (T : TopOk W) : FSim W 1 (.ref 33) f_size := FSim.of T.ok T.if_size (show BlSim W 0 (scopeS (stAt pw.main.body 3)) (bodyS (stAt pw.main.body 3)) (sSeq bf_size) from
    (BlSim.cons (SSim.ret (ESim.call1 T.ok (by kernel_rfl) T.g_sum (by kernel_rfl) (keepOk_builtin _) op_sum (ESim.comp (fun _ _ => rfl) (by kernel_rfl) (ISim.val (ESim.var 0 _ rfl (by decide) (.inl (by kernel_rfl)) (by kernel_rfl))) (.two (.cons rfl (by decide) (.inl (by kernel_rfl)) (.cons rfl (by decide) (.inl (by kernel_rfl)) .nil))) (htl_two (by kernel_rfl) (by kernel_rfl)) .nil (ESim.bin (ESim.bin (ESim.var 3 _ rfl (by decide) (.inl (by kernel_rfl)) (by kernel_rfl)) (ESim.var 2 _ rfl (by decide) (.inl (by kernel_rfl)) (by kernel_rfl)) op_sub) (ESim.cInt _ _ _) op_add)) rfl))
    BlSim.nil))
theorem sf_next_from {W : Wd} (T : TopOk W) : FSim W 1 (.ref 40) f_next_from := FSim.of T.ok T.if_next_from (show BlSim W 0 (scopeS (stAt pw.main.body 5)) (bodyS (stAt pw.main.body 5)) (sSeq bf_next_from) from
    (BlSim.cons (SSim.forS (fun _ _ => rfl) (ISim.val (ESim.var 0 _ rfl (by decide) (.inl (by kernel_rfl)) (by kernel_rfl))) (.two (.cons rfl (by decide) (.inl (by kernel_rfl)) (.cons rfl (by decide) (.inl (by kernel_rfl)) .nil))) (BlSim.cons (SSim.ite (TSim.cmp (ESim.var 1 _ rfl (by decide) (.inl (by kernel_rfl)) (by kernel_rfl)) (ESim.var 3 _ rfl (by decide) (.inl (by kernel_rfl)) (by kernel_rfl)) op_le (by kernel_rfl)) (BlSim.cons (SSim.ret (ESim.call2 T.ok (by kernel_rfl) T.g_max (by kernel_rfl) (keepOk_builtin _) op_max (ESim.var 2 _ rfl (by decide) (.inl (by kernel_rfl)) (by kernel_rfl)) (ESim.var 1 _ rfl (by decide) (.inl (by kernel_rfl)) (by kernel_rfl)) rfl))
    BlSim.nil) BlSim.nil)
    BlSim.nil))
    (BlSim.cons (SSim.ret (ESim.cNone _ _))
    BlSim.nil)))
theorem sf_has {W : Wd} (T : TopOk W) : FSim W 2 (.ref 47) f_has := FSim.of T.ok T.if_has (show BlSim W 1 (scopeS (stAt pw.main.body 6)) (bodyS (stAt pw.main.body 6)) (sSeq bf_has) from
    (BlSim.cons (SSim.ret (ESim.cmp (ESim.call T.ok (by kernel_rfl) T.g_next_from (by kernel_rfl) T.if_next_from.keep ((sf_next_from T).up (by decide)) (.cons (ESim.var 0 _ rfl (by decide) (.inl (by kernel_rfl)) (by kernel_rfl)) (.cons (ESim.var 1 _ rfl (by decide) (.inl (by kernel_rfl)) (by kernel_rfl)) .nil)) rfl) (ESim.var 1 _ rfl (by decide) (.inl (by kernel_rfl)) (by kernel_rfl)) op_eq (by kernel_rfl)))
    BlSim.nil))
theorem sf_up_to {W : Wd} (T : TopOk W) : FSim W 1 (.ref 52) f_up_to := FSim.of T.ok T.if_up_to (show BlSim W 0 (scopeS (stAt pw.main.body 8)) (bodyS (stAt pw.main.body 8)) (sSeq bf_up_to) from
    (BlSim.cons (SSim.ret (ESim.call1 T.ok (by kernel_rfl) T.g_tuple (by kernel_rfl) (keepOk_type _) op_tuple (ESim.comp (fun _ _ => rfl) (by kernel_rfl) (ISim.val (ESim.var 0 _ rfl (by decide) (.inl (by kernel_rfl)) (by kernel_rfl))) (.two (.cons rfl (by decide) (.inl (by kernel_rfl)) (.cons rfl (by decide) (.inl (by kernel_rfl)) .nil))) (htl_two (by kernel_rfl) (by kernel_rfl)) (.cons (TSim.cmp (ESim.var 2 _ rfl (by decide) (.inl (by kernel_rfl)) (by kernel_rfl)) (ESim.var 4 _ rfl (by decide) (.inr (by kernel_rfl)) (by kernel_rfl)) op_le (by kernel_rfl)) .nil) (ESim.tup (.cons (ESim.var 2 _ rfl (by decide) (.inl (by kernel_rfl)) (by kernel_rfl)) (.cons (ESim.call2 T.ok (by kernel_rfl) T.g_min (by kernel_rfl) (keepOk_builtin _) op_min (ESim.var 3 _ rfl (by decide) (.inl (by kernel_rfl)) (by kernel_rfl)) (ESim.var 4 _ rfl (by decide) (.inr (by kernel_rfl)) (by kernel_rfl)) rfl) .nil)) rfl (by decide))) rfl))
    BlSim.nil))
theorem sf_from_on {W : Wd} (T : TopOk W) : FSim W 1 (.ref 57) f_from_on := FSim.of T.ok T.if_from_on (show BlSim W 0 (scopeS (stAt pw.main.body 9)) (bodyS (stAt pw.main.body 9)) (sSeq bf_from_on) from
    (BlSim.cons (SSim.ret (ESim.call1 T.ok (by kernel_rfl) T.g_tuple (by kernel_rfl) (keepOk_type _) op_tuple (ESim.comp (fun _ _ => rfl) (by kernel_rfl) (ISim.val (ESim.var 0 _ rfl (by decide) (.inl (by kernel_rfl)) (by kernel_rfl))) (.two (.cons rfl (by decide) (.inl (by kernel_rfl)) (.cons rfl (by decide) (.inl (by kernel_rfl)) .nil))) (htl_two (by kernel_rfl) (by kernel_rfl)) (.cons (TSim.cmp (ESim.var 3 _ rfl (by decide) (.inl (by kernel_rfl)) (by kernel_rfl)) (ESim.var 4 _ rfl (by decide) (.inr (by kernel_rfl)) (by kernel_rfl)) op_ge (by kernel_rfl)) .nil) (ESim.tup (.cons (ESim.call2 T.ok (by kernel_rfl) T.g_max (by kernel_rfl) (keepOk_builtin _) op_max (ESim.var 2 _ rfl (by decide) (.inl (by kernel_rfl)) (by kernel_rfl)) (ESim.var 4 _ rfl (by decide) (.inr (by kernel_rfl)) (by kernel_rfl)) rfl) (.cons (ESim.var 3 _ rfl (by decide) (.inl (by kernel_rfl)) (by kernel_rfl)) .nil)) rfl (by decide))) rfl))
    BlSim.nil))
theorem sf_without {W : Wd} (T : TopOk W) : FSim W 2 (.ref 64) f_without := FSim.of T.ok T.if_without (show BlSim W 1 (scopeS (stAt pw.main.body 10)) (bodyS (stAt pw.main.body 10)) (sSeq bf_without) from
    (BlSim.cons (SSim.ret (ESim.bin (ESim.call T.ok (by kernel_rfl) T.g_up_to (by kernel_rfl) T.if_up_to.keep ((sf_up_to T).up (by decide)) (.cons (ESim.var 0 _ rfl (by decide) (.inl (by kernel_rfl)) (by kernel_rfl)) (.cons (ESim.bin (ESim.var 1 _ rfl (by decide) (.inl (by kernel_rfl)) (by kernel_rfl)) (ESim.cInt _ _ _) op_sub) .nil)) rfl) (ESim.call T.ok (by kernel_rfl) T.g_from_on (by kernel_rfl) T.if_from_on.keep ((sf_from_on T).up (by decide)) (.cons (ESim.var 0 _ rfl (by decide) (.inl (by kernel_rfl)) (by kernel_rfl)) (.cons (ESim.bin (ESim.var 1 _ rfl (by decide) (.inl (by kernel_rfl)) (by kernel_rfl)) (ESim.cInt _ _ _) op_add) .nil)) rfl) op_add))
    BlSim.nil))
theorem sf_meet {W : Wd} (T : TopOk W) : FSim W 1 (.ref 71) f_meet := FSim.of T.ok T.if_meet (show BlSim W 0 (scopeS (stAt pw.main.body 11)) (bodyS (stAt pw.main.body 11)) (sSeq bf_meet) from
    (BlSim.cons (SSim.assignTupSw (.cons ESim.newList (.cons (ESim.cInt _ _ _) (.cons (ESim.cInt _ _ _) .nil))) rfl (by decide) (by decide) (by intro k hk; simp only [List.mem_cons, List.not_mem_nil, or_false] at hk; rcases hk with rfl | rfl | rfl <;> exact ⟨by decide, by kernel_rfl⟩) (by intro env h; cases env; subst h; kernel_rfl))
    (BlSim.cons (SSim.whileS (TSim.and (TSim.cmp (ESim.var 7 _ rfl (by decide) (.inl (by kernel_rfl)) (by kernel_rfl)) (ESim.call1 T.ok (by kernel_rfl) T.g_len (by kernel_rfl) (keepOk_builtin _) op_len (ESim.var 0 _ rfl (by decide) (.inl (by kernel_rfl)) (by kernel_rfl)) rfl) op_lt (by kernel_rfl)) (TSim.cmp (ESim.var 8 _ rfl (by decide) (.inl (by kernel_rfl)) (by kernel_rfl)) (ESim.call1 T.ok (by kernel_rfl) T.g_len (by kernel_rfl) (keepOk_builtin _) op_len (ESim.var 5 _ rfl (by decide) (.inl (by kernel_rfl)) (by kernel_rfl)) rfl) op_lt (by kernel_rfl))) (BlSim.cons (SSim.assignTupSw (.cons (ESim.call2 T.ok (by kernel_rfl) T.g_max (by kernel_rfl) (keepOk_builtin _) op_max (ESim.item (ESim.item (ESim.var 0 _ rfl (by decide) (.inl (by kernel_rfl)) (by kernel_rfl)) (ESim.var 7 _ rfl (by decide) (.inl (by kernel_rfl)) (by kernel_rfl)) rfl) (ESim.cInt _ _ _) rfl) (ESim.item (ESim.item (ESim.var 5 _ rfl (by decide) (.inl (by kernel_rfl)) (by kernel_rfl)) (ESim.var 8 _ rfl (by decide) (.inl (by kernel_rfl)) (by kernel_rfl)) rfl) (ESim.cInt _ _ _) rfl) rfl) (.cons (ESim.call2 T.ok (by kernel_rfl) T.g_min (by kernel_rfl) (keepOk_builtin _) op_min (ESim.item (ESim.item (ESim.var 0 _ rfl (by decide) (.inl (by kernel_rfl)) (by kernel_rfl)) (ESim.var 7 _ rfl (by decide) (.inl (by kernel_rfl)) (by kernel_rfl)) rfl) (ESim.cInt _ _ _) rfl) (ESim.item (ESim.item (ESim.var 5 _ rfl (by decide) (.inl (by kernel_rfl)) (by kernel_rfl)) (ESim.var 8 _ rfl (by decide) (.inl (by kernel_rfl)) (by kernel_rfl)) rfl) (ESim.cInt _ _ _) rfl) rfl) .nil)) rfl (by decide) (by decide) (by intro k hk; simp only [List.mem_cons, List.not_mem_nil, or_false] at hk; rcases hk with rfl | rfl <;> exact ⟨by decide, by kernel_rfl⟩) (by intro env h; cases env; subst h; kernel_rfl))
    (BlSim.cons (SSim.ite (TSim.cmp (ESim.var 2 _ rfl (by decide) (.inl (by kernel_rfl)) (by kernel_rfl)) (ESim.var 3 _ rfl (by decide) (.inl (by kernel_rfl)) (by kernel_rfl)) op_le (by kernel_rfl)) (BlSim.cons (SSim.expr (ESim.append (ESim.var 6 _ rfl (by decide) (.inl (by kernel_rfl)) (by kernel_rfl)) (fun _ _ => rfl) (ESim.tup (.cons (ESim.var 2 _ rfl (by decide) (.inl (by kernel_rfl)) (by kernel_rfl)) (.cons (ESim.var 3 _ rfl (by decide) (.inl (by kernel_rfl)) (by kernel_rfl)) .nil)) rfl (by decide)) rfl (by kernel_rfl)) (fun _ => rfl))
    BlSim.nil) BlSim.nil)
    (BlSim.cons (SSim.ite (TSim.cmp (ESim.item (ESim.item (ESim.var 0 _ rfl (by decide) (.inl (by kernel_rfl)) (by kernel_rfl)) (ESim.var 7 _ rfl (by decide) (.inl (by kernel_rfl)) (by kernel_rfl)) rfl) (ESim.cInt _ _ _) rfl) (ESim.item (ESim.item (ESim.var 5 _ rfl (by decide) (.inl (by kernel_rfl)) (by kernel_rfl)) (ESim.var 8 _ rfl (by decide) (.inl (by kernel_rfl)) (by kernel_rfl)) rfl) (ESim.cInt _ _ _) rfl) op_lt (by kernel_rfl)) (BlSim.cons (SSim.assign rfl (by decide) (.inl (by kernel_rfl)) (ESim.bin (ESim.var 7 _ rfl (by decide) (.inl (by kernel_rfl)) (by kernel_rfl)) (ESim.cInt _ _ _) op_add) (fun _ _ => rfl))
    BlSim.nil) (BlSim.cons (SSim.assign rfl (by decide) (.inl (by kernel_rfl)) (ESim.bin (ESim.var 8 _ rfl (by decide) (.inl (by kernel_rfl)) (by kernel_rfl)) (ESim.cInt _ _ _) op_add) (fun _ _ => rfl))
    BlSim.nil))
    BlSim.nil))))
    (BlSim.cons (SSim.ret (ESim.call1 T.ok (by kernel_rfl) T.g_tuple (by kernel_rfl) (keepOk_type _) op_tuple (ESim.var 6 _ rfl (by decide) (.inl (by kernel_rfl)) (by kernel_rfl)) rfl))
    BlSim.nil))))
theorem sf_negation {W : Wd} (T : TopOk W) : FSim W 1 (.ref 78) f_negation := FSim.of T.ok T.if_negation (show BlSim W 0 (scopeS (stAt pw.main.body 12)) (bodyS (stAt pw.main.body 12)) (sSeq bf_negation) from
    (BlSim.cons (SSim.unpack (ESim.var 9 _ rfl (by decide) (.inl (by kernel_rfl)) (by kernel_rfl)) (.cons rfl (by decide) (.inl (by kernel_rfl)) (.cons rfl (by decide) (.inl (by kernel_rfl)) (.cons rfl (by decide) (.inl (by kernel_rfl)) .nil))) (fun _ => rfl) (fun _ => rfl))
    (BlSim.cons (SSim.ite (TSim.cmp (ESim.var 11 _ rfl (by decide) (.inl (by kernel_rfl)) (by kernel_rfl)) (ESim.cStr _ _ _) op_eq (by kernel_rfl)) (BlSim.cons (SSim.ret (ESim.tup (.cons (ESim.var 10 _ rfl (by decide) (.inl (by kernel_rfl)) (by kernel_rfl)) (.cons (ESim.cStr _ _ _) (.cons (ESim.bin (ESim.var 4 _ rfl (by decide) (.inl (by kernel_rfl)) (by kernel_rfl)) (ESim.cInt _ _ _) op_add) .nil))) rfl (by decide)))
    BlSim.nil) BlSim.nil)
    (BlSim.cons (SSim.ite (TSim.cmp (ESim.var 11 _ rfl (by decide) (.inl (by kernel_rfl)) (by kernel_rfl)) (ESim.cStr _ _ _) op_eq (by kernel_rfl)) (BlSim.cons (SSim.ret (ESim.tup (.cons (ESim.var 10 _ rfl (by decide) (.inl (by kernel_rfl)) (by kernel_rfl)) (.cons (ESim.cStr _ _ _) (.cons (ESim.bin (ESim.var 4 _ rfl (by decide) (.inl (by kernel_rfl)) (by kernel_rfl)) (ESim.cInt _ _ _) op_sub) .nil))) rfl (by decide)))
    BlSim.nil) BlSim.nil)
    (BlSim.cons (SSim.ret (ESim.ite (TSim.cmp (ESim.var 11 _ rfl (by decide) (.inl (by kernel_rfl)) (by kernel_rfl)) (ESim.cStr _ _ _) op_eq (by kernel_rfl)) (ESim.tup (.cons (ESim.var 10 _ rfl (by decide) (.inl (by kernel_rfl)) (by kernel_rfl)) (.cons (ESim.cStr _ _ _) (.cons (ESim.var 4 _ rfl (by decide) (.inl (by kernel_rfl)) (by kernel_rfl)) .nil))) rfl (by decide)) (ESim.tup (.cons (ESim.var 10 _ rfl (by decide) (.inl (by kernel_rfl)) (by kernel_rfl)) (.cons (ESim.cStr _ _ _) (.cons (ESim.var 4 _ rfl (by decide) (.inl (by kernel_rfl)) (by kernel_rfl)) .nil))) rfl (by decide))))
    BlSim.nil)))))
theorem sf_struck {W : Wd} (T : TopOk W) : FSim W 3 (.ref 85) f_struck := FSim.of T.ok T.if_struck (show BlSim W 2 (scopeS (stAt pw.main.body 13)) (bodyS (stAt pw.main.body 13)) (sSeq bf_struck) from
    (BlSim.cons (SSim.assignTupSw (.cons (ESim.item (ESim.var 9 _ rfl (by decide) (.inl (by kernel_rfl)) (by kernel_rfl)) (ESim.cInt _ _ _) rfl) (.cons (ESim.item (ESim.var 9 _ rfl (by decide) (.inl (by kernel_rfl)) (by kernel_rfl)) (ESim.cInt _ _ _) rfl) .nil)) rfl (by decide) (by decide) (by intro k hk; simp only [List.mem_cons, List.not_mem_nil, or_false] at hk; rcases hk with rfl | rfl <;> exact ⟨by decide, by kernel_rfl⟩) (by intro env h; cases env; subst h; kernel_rfl))
    (BlSim.cons (SSim.ite (TSim.cmp (ESim.var 11 _ rfl (by decide) (.inl (by kernel_rfl)) (by kernel_rfl)) (ESim.cStr _ _ _) op_eq (by kernel_rfl)) (BlSim.cons (SSim.ret (ESim.call T.ok (by kernel_rfl) T.g_up_to (by kernel_rfl) T.if_up_to.keep ((sf_up_to T).up (by decide)) (.cons (ESim.var 0 _ rfl (by decide) (.inl (by kernel_rfl)) (by kernel_rfl)) (.cons (ESim.var 4 _ rfl (by decide) (.inl (by kernel_rfl)) (by kernel_rfl)) .nil)) rfl))
    BlSim.nil) BlSim.nil)
    (BlSim.cons (SSim.ite (TSim.cmp (ESim.var 11 _ rfl (by decide) (.inl (by kernel_rfl)) (by kernel_rfl)) (ESim.cStr _ _ _) op_eq (by kernel_rfl)) (BlSim.cons (SSim.ret (ESim.call T.ok (by kernel_rfl) T.g_from_on (by kernel_rfl) T.if_from_on.keep ((sf_from_on T).up (by decide)) (.cons (ESim.var 0 _ rfl (by decide) (.inl (by kernel_rfl)) (by kernel_rfl)) (.cons (ESim.var 4 _ rfl (by decide) (.inl (by kernel_rfl)) (by kernel_rfl)) .nil)) rfl))
    BlSim.nil) BlSim.nil)
    (BlSim.cons (SSim.ret (ESim.ite (TSim.cmp (ESim.var 11 _ rfl (by decide) (.inl (by kernel_rfl)) (by kernel_rfl)) (ESim.cStr _ _ _) op_eq (by kernel_rfl)) (ESim.call T.ok (by kernel_rfl) T.g_meet (by kernel_rfl) T.if_meet.keep ((sf_meet T).up (by decide)) (.cons (ESim.var 0 _ rfl (by decide) (.inl (by kernel_rfl)) (by kernel_rfl)) (.cons (ESim.tup (.cons (ESim.tup (.cons (ESim.var 4 _ rfl (by decide) (.inl (by kernel_rfl)) (by kernel_rfl)) (.cons (ESim.var 4 _ rfl (by decide) (.inl (by kernel_rfl)) (by kernel_rfl)) .nil)) rfl (by decide)) .nil) rfl (by decide)) .nil)) rfl) (ESim.call T.ok (by kernel_rfl) T.g_without (by kernel_rfl) T.if_without.keep ((sf_without T).up (by decide)) (.cons (ESim.var 0 _ rfl (by decide) (.inl (by kernel_rfl)) (by kernel_rfl)) (.cons (ESim.var 4 _ rfl (by decide) (.inl (by kernel_rfl)) (by kernel_rfl)) .nil)) rfl)))
    BlSim.nil)))))
theorem sf_said_of {W : Wd} (T : TopOk W) : FSim W 4 (.ref 92) f_said_of := FSim.of T.ok T.if_said_of (show BlSim W 3 (scopeS (stAt pw.main.body 14)) (bodyS (stAt pw.main.body 14)) (sSeq bf_said_of) from
    (BlSim.cons (SSim.assign rfl (by decide) (.inl (by kernel_rfl)) (ESim.call T.ok (by kernel_rfl) T.g_struck (by kernel_rfl) T.if_struck.keep ((sf_struck T).up (by decide)) (.cons (ESim.var 9 _ rfl (by decide) (.inl (by kernel_rfl)) (by kernel_rfl)) (.cons (ESim.var 0 _ rfl (by decide) (.inl (by kernel_rfl)) (by kernel_rfl)) .nil)) rfl) (fun _ _ => rfl))
    (BlSim.cons (SSim.ite (TSim.cmp (ESim.var 12 _ rfl (by decide) (.inl (by kernel_rfl)) (by kernel_rfl)) (ESim.var 0 _ rfl (by decide) (.inl (by kernel_rfl)) (by kernel_rfl)) op_eq (by kernel_rfl)) (BlSim.cons (SSim.ret (ESim.cInt _ _ _))
    BlSim.nil) BlSim.nil)
    (BlSim.cons (SSim.ret (ESim.ite (TSim.cmp (ESim.var 12 _ rfl (by decide) (.inl (by kernel_rfl)) (by kernel_rfl)) (ESim.tup .nil rfl (by decide)) op_eq (by kernel_rfl)) (ESim.un (ESim.cInt _ _ _) op_neg) (ESim.cInt _ _ _)))
    BlSim.nil))))
theorem sm__init__ {W : Wd} (T : TopOk W) : FSim W 1 (.ref 106) m__init__ := FSim.of T.ok T.im__init__ (show BlSim W 0 (scopeS (stAt (bodyS (stAt pw.main.body 16)) 0)) (bodyS (stAt (bodyS (stAt pw.main.body 16)) 0)) (sSeq bm__init__) from
    (BlSim.cons (SSim.attrSet 36 T.ok T.co (ESim.var 13 _ rfl (by decide) (.inl (by kernel_rfl)) (by kernel_rfl)) ESim.newList rfl (by decide) T.a_domains (fun _ => rfl))
    (BlSim.cons (SSim.attrSet 30 T.ok T.co (ESim.var 13 _ rfl (by decide) (.inl (by kernel_rfl)) (by kernel_rfl)) ESim.newList rfl (by decide) T.a_firsts (fun _ => rfl))
    (BlSim.cons (SSim.attrSet 37 T.ok T.co (ESim.var 13 _ rfl (by decide) (.inl (by kernel_rfl)) (by kernel_rfl)) ESim.newList rfl (by decide) T.a_trail (fun _ => rfl))
    (BlSim.cons (SSim.attrSet 38 T.ok T.co (ESim.var 13 _ rfl (by decide) (.inl (by kernel_rfl)) (by kernel_rfl)) ESim.newList rfl (by decide) T.a_marks (fun _ => rfl))
    (BlSim.cons (SSim.attrSet 39 T.ok T.co (ESim.var 13 _ rfl (by decide) (.inl (by kernel_rfl)) (by kernel_rfl)) ESim.newIDict rfl (by decide) T.a_news (fun _ => rfl))
    (BlSim.cons (SSim.attrSet 16 T.ok T.co (ESim.var 13 _ rfl (by decide) (.inl (by kernel_rfl)) (by kernel_rfl)) (ESim.un (ESim.cInt _ _ _) op_neg) rfl (by decide) T.a_speaker (fun _ => rfl))
    (BlSim.cons (SSim.attrSet 40 T.ok T.co (ESim.var 13 _ rfl (by decide) (.inl (by kernel_rfl)) (by kernel_rfl)) (ESim.cBool _ _ _) rfl (by decide) T.a_is_failed (fun _ => rfl))
    (BlSim.cons (SSim.attrSet 35 T.ok T.co (ESim.var 13 _ rfl (by decide) (.inl (by kernel_rfl)) (by kernel_rfl)) (ESim.tup .nil rfl (by decide)) rfl (by decide) T.a_clash (fun _ => rfl))
    BlSim.nil)))))))))
theorem sm_fail {W : Wd} (T : TopOk W) : FSim W 1 (.ref 211) m_fail := FSim.of T.ok T.im_fail (show BlSim W 0 (scopeS (stAt (bodyS (stAt pw.main.body 16)) 15)) (bodyS (stAt (bodyS (stAt pw.main.body 16)) 15)) (sSeq bm_fail) from
    (BlSim.cons (SSim.attrSet 40 T.ok T.co (ESim.var 13 _ rfl (by decide) (.inl (by kernel_rfl)) (by kernel_rfl)) (ESim.cBool _ _ _) rfl (by decide) T.a_is_failed (fun _ => rfl))
    (BlSim.cons (SSim.attrSet 35 T.ok T.co (ESim.var 13 _ rfl (by decide) (.inl (by kernel_rfl)) (by kernel_rfl)) (ESim.call1 T.ok (by kernel_rfl) T.g_tuple (by kernel_rfl) (keepOk_type _) op_tuple (ESim.var 15 _ rfl (by decide) (.inl (by kernel_rfl)) (by kernel_rfl)) rfl) rfl (by decide) T.a_clash (fun _ => rfl))
    (BlSim.cons (SSim.ret (ESim.cBool _ _ _))
    BlSim.nil))))
theorem sm_new_var {W : Wd} (T : TopOk W) : FSim W 2 (.ref 113) m_new_var := FSim.of T.ok T.im_new_var (show BlSim W 1 (scopeS (stAt (bodyS (stAt pw.main.body 16)) 1)) (bodyS (stAt (bodyS (stAt pw.main.body 16)) 1)) (sSeq bm_new_var) from
    (BlSim.cons (SSim.expr (ESim.append (ESim.attr 36 T.ok T.co (ESim.var 13 _ rfl (by decide) (.inl (by kernel_rfl)) (by kernel_rfl)) (fun _ _ => rfl) (fun _ _ => rfl) rfl (by decide) T.a_domains) (fun _ _ => rfl) (ESim.var 14 _ rfl (by decide) (.inl (by kernel_rfl)) (by kernel_rfl)) rfl (by kernel_rfl)) (fun _ => rfl))
    (BlSim.cons (SSim.expr (ESim.append (ESim.attr 30 T.ok T.co (ESim.var 13 _ rfl (by decide) (.inl (by kernel_rfl)) (by kernel_rfl)) (fun _ _ => rfl) (fun _ _ => rfl) rfl (by decide) T.a_firsts) (fun _ _ => rfl) (ESim.var 14 _ rfl (by decide) (.inl (by kernel_rfl)) (by kernel_rfl)) rfl (by kernel_rfl)) (fun _ => rfl))
    (BlSim.cons (SSim.ite (TSim.cmp (ESim.var 14 _ rfl (by decide) (.inl (by kernel_rfl)) (by kernel_rfl)) (ESim.tup .nil rfl (by decide)) op_eq (by kernel_rfl)) (BlSim.cons (SSim.expr (ESim.methF T.ok T.co (ESim.var 13 _ rfl (by decide) (.inl (by kernel_rfl)) (by kernel_rfl)) (fun _ _ => rfl) T.nm_fail T.tm_fail T.im_fail ((sm_fail T).up (by decide)) (.cons (ESim.tup .nil rfl (by decide)) .nil) rfl (by decide) (by kernel_rfl) (by kernel_rfl)) (fun _ => rfl))
    BlSim.nil) BlSim.nil)
    (BlSim.cons (SSim.ret (ESim.bin (ESim.call1 T.ok (by kernel_rfl) T.g_len (by kernel_rfl) (keepOk_builtin _) op_len (ESim.attr 36 T.ok T.co (ESim.var 13 _ rfl (by decide) (.inl (by kernel_rfl)) (by kernel_rfl)) (fun _ _ => rfl) (fun _ _ => rfl) rfl (by decide) T.a_domains) rfl) (ESim.cInt _ _ _) op_sub))
    BlSim.nil)))))
theorem sm_size {W : Wd} (T : TopOk W) : FSim W 1 (.ref 120) m_size := FSim.of T.ok T.im_size (show BlSim W 0 (scopeS (stAt (bodyS (stAt pw.main.body 16)) 2)) (bodyS (stAt (bodyS (stAt pw.main.body 16)) 2)) (sSeq bm_size) from
    (BlSim.cons (SSim.ret (ESim.call1 T.ok (by kernel_rfl) T.g_len (by kernel_rfl) (keepOk_builtin _) op_len (ESim.attr 36 T.ok T.co (ESim.var 13 _ rfl (by decide) (.inl (by kernel_rfl)) (by kernel_rfl)) (fun _ _ => rfl) (fun _ _ => rfl) rfl (by decide) T.a_domains) rfl))
    BlSim.nil))
theorem sm_dom {W : Wd} (T : TopOk W) : FSim W 1 (.ref 127) m_dom := FSim.of T.ok T.im_dom (show BlSim W 0 (scopeS (stAt (bodyS (stAt pw.main.body 16)) 3)) (bodyS (stAt (bodyS (stAt pw.main.body 16)) 3)) (sSeq bm_dom) from
    (BlSim.cons (SSim.ret (ESim.item (ESim.attr 36 T.ok T.co (ESim.var 13 _ rfl (by decide) (.inl (by kernel_rfl)) (by kernel_rfl)) (fun _ _ => rfl) (fun _ _ => rfl) rfl (by decide) T.a_domains) (ESim.var 10 _ rfl (by decide) (.inl (by kernel_rfl)) (by kernel_rfl)) rfl))
    BlSim.nil))
theorem sm_initial {W : Wd} (T : TopOk W) : FSim W 1 (.ref 134) m_initial := FSim.of T.ok T.im_initial (show BlSim W 0 (scopeS (stAt (bodyS (stAt pw.main.body 16)) 4)) (bodyS (stAt (bodyS (stAt pw.main.body 16)) 4)) (sSeq bm_initial) from
    (BlSim.cons (SSim.ret (ESim.item (ESim.attr 30 T.ok T.co (ESim.var 13 _ rfl (by decide) (.inl (by kernel_rfl)) (by kernel_rfl)) (fun _ _ => rfl) (fun _ _ => rfl) rfl (by decide) T.a_firsts) (ESim.var 10 _ rfl (by decide) (.inl (by kernel_rfl)) (by kernel_rfl)) rfl))
    BlSim.nil))
theorem sm_low {W : Wd} (T : TopOk W) : FSim W 2 (.ref 141) m_low := FSim.of T.ok T.im_low (show BlSim W 1 (scopeS (stAt (bodyS (stAt pw.main.body 16)) 5)) (bodyS (stAt (bodyS (stAt pw.main.body 16)) 5)) (sSeq bm_low) from
    (BlSim.cons (SSim.ret (ESim.call T.ok (by kernel_rfl) T.g_least (by kernel_rfl) T.if_least.keep ((sf_least T).up (by decide)) (.cons (ESim.item (ESim.attr 36 T.ok T.co (ESim.var 13 _ rfl (by decide) (.inl (by kernel_rfl)) (by kernel_rfl)) (fun _ _ => rfl) (fun _ _ => rfl) rfl (by decide) T.a_domains) (ESim.var 10 _ rfl (by decide) (.inl (by kernel_rfl)) (by kernel_rfl)) rfl) .nil) rfl))
    BlSim.nil))
theorem sm_high {W : Wd} (T : TopOk W) : FSim W 2 (.ref 148) m_high := FSim.of T.ok T.im_high (show BlSim W 1 (scopeS (stAt (bodyS (stAt pw.main.body 16)) 6)) (bodyS (stAt (bodyS (stAt pw.main.body 16)) 6)) (sSeq bm_high) from
    (BlSim.cons (SSim.ret (ESim.call T.ok (by kernel_rfl) T.g_greatest (by kernel_rfl) T.if_greatest.keep ((sf_greatest T).up (by decide)) (.cons (ESim.item (ESim.attr 36 T.ok T.co (ESim.var 13 _ rfl (by decide) (.inl (by kernel_rfl)) (by kernel_rfl)) (fun _ _ => rfl) (fun _ _ => rfl) rfl (by decide) T.a_domains) (ESim.var 10 _ rfl (by decide) (.inl (by kernel_rfl)) (by kernel_rfl)) rfl) .nil) rfl))
    BlSim.nil))
theorem sm_has {W : Wd} (T : TopOk W) : FSim W 3 (.ref 155) m_has := FSim.of T.ok T.im_has (show BlSim W 2 (scopeS (stAt (bodyS (stAt pw.main.body 16)) 7)) (bodyS (stAt (bodyS (stAt pw.main.body 16)) 7)) (sSeq bm_has) from
    (BlSim.cons (SSim.ret (ESim.call T.ok (by kernel_rfl) T.g_has_domains (by kernel_rfl) T.if_has.keep ((sf_has T).up (by decide)) (.cons (ESim.item (ESim.attr 36 T.ok T.co (ESim.var 13 _ rfl (by decide) (.inl (by kernel_rfl)) (by kernel_rfl)) (fun _ _ => rfl) (fun _ _ => rfl) rfl (by decide) T.a_domains) (ESim.var 10 _ rfl (by decide) (.inl (by kernel_rfl)) (by kernel_rfl)) rfl) (.cons (ESim.var 1 _ rfl (by decide) (.inl (by kernel_rfl)) (by kernel_rfl)) .nil)) rfl))
    BlSim.nil))
theorem sm_is_fixed {W : Wd} (T : TopOk W) : FSim W 1 (.ref 162) m_is_fixed := FSim.of T.ok T.im_is_fixed (show BlSim W 0 (scopeS (stAt (bodyS (stAt pw.main.body 16)) 8)) (bodyS (stAt (bodyS (stAt pw.main.body 16)) 8)) (sSeq bm_is_fixed) from
    (BlSim.cons (SSim.assign rfl (by decide) (.inl (by kernel_rfl)) (ESim.item (ESim.attr 36 T.ok T.co (ESim.var 13 _ rfl (by decide) (.inl (by kernel_rfl)) (by kernel_rfl)) (fun _ _ => rfl) (fun _ _ => rfl) rfl (by decide) T.a_domains) (ESim.var 10 _ rfl (by decide) (.inl (by kernel_rfl)) (by kernel_rfl)) rfl) (fun _ _ => rfl))
    (BlSim.cons (SSim.ret (ESim.and1 (ESim.cmp (ESim.call1 T.ok (by kernel_rfl) T.g_len (by kernel_rfl) (keepOk_builtin _) op_len (ESim.var 14 _ rfl (by decide) (.inl (by kernel_rfl)) (by kernel_rfl)) rfl) (ESim.cInt _ _ _) op_eq (by kernel_rfl)) (ESim.bool1 (ESim.cmp (ESim.item (ESim.item (ESim.var 14 _ rfl (by decide) (.inl (by kernel_rfl)) (by kernel_rfl)) (ESim.cInt _ _ _) rfl) (ESim.cInt _ _ _) rfl) (ESim.item (ESim.item (ESim.var 14 _ rfl (by decide) (.inl (by kernel_rfl)) (by kernel_rfl)) (ESim.cInt _ _ _) rfl) (ESim.cInt _ _ _) rfl) op_eq (by kernel_rfl)))))
    BlSim.nil)))
theorem sm_value {W : Wd} (T : TopOk W) : FSim W 1 (.ref 169) m_value := FSim.of T.ok T.im_value (show BlSim W 0 (scopeS (stAt (bodyS (stAt pw.main.body 16)) 9)) (bodyS (stAt (bodyS (stAt pw.main.body 16)) 9)) (sSeq bm_value) from
    (BlSim.cons (SSim.ret (ESim.item (ESim.item (ESim.item (ESim.attr 36 T.ok T.co (ESim.var 13 _ rfl (by decide) (.inl (by kernel_rfl)) (by kernel_rfl)) (fun _ _ => rfl) (fun _ _ => rfl) rfl (by decide) T.a_domains) (ESim.var 10 _ rfl (by decide) (.inl (by kernel_rfl)) (by kernel_rfl)) rfl) (ESim.cInt _ _ _) rfl) (ESim.cInt _ _ _) rfl))
    BlSim.nil))
theorem sm_width {W : Wd} (T : TopOk W) : FSim W 2 (.ref 176) m_width := FSim.of T.ok T.im_width (show BlSim W 1 (scopeS (stAt (bodyS (stAt pw.main.body 16)) 10)) (bodyS (stAt (bodyS (stAt pw.main.body 16)) 10)) (sSeq bm_width) from
    (BlSim.cons (SSim.ret (ESim.call T.ok (by kernel_rfl) T.g_size_domains (by kernel_rfl) T.if_size.keep ((sf_size T).up (by decide)) (.cons (ESim.item (ESim.attr 36 T.ok T.co (ESim.var 13 _ rfl (by decide) (.inl (by kernel_rfl)) (by kernel_rfl)) (fun _ _ => rfl) (fun _ _ => rfl) rfl (by decide) T.a_domains) (ESim.var 10 _ rfl (by decide) (.inl (by kernel_rfl)) (by kernel_rfl)) rfl) .nil) rfl))
    BlSim.nil))
theorem sm_holds {W : Wd} (T : TopOk W) : FSim W 5 (.ref 183) m_holds := FSim.of T.ok T.im_holds (show BlSim W 4 (scopeS (stAt (bodyS (stAt pw.main.body 16)) 11)) (bodyS (stAt (bodyS (stAt pw.main.body 16)) 11)) (sSeq bm_holds) from
    (BlSim.cons (SSim.ret (ESim.call T.ok (by kernel_rfl) T.g_said_of (by kernel_rfl) T.if_said_of.keep ((sf_said_of T).up (by decide)) (.cons (ESim.var 9 _ rfl (by decide) (.inl (by kernel_rfl)) (by kernel_rfl)) (.cons (ESim.item (ESim.attr 36 T.ok T.co (ESim.var 13 _ rfl (by decide) (.inl (by kernel_rfl)) (by kernel_rfl)) (fun _ _ => rfl) (fun _ _ => rfl) rfl (by decide) T.a_domains) (ESim.item (ESim.var 9 _ rfl (by decide) (.inl (by kernel_rfl)) (by kernel_rfl)) (ESim.cInt _ _ _) rfl) rfl) .nil)) rfl))
    BlSim.nil))
theorem sm_enter {W : Wd} (T : TopOk W) : FSim W 4 (.ref 190) m_enter := FSim.of T.ok T.im_enter (show BlSim W 3 (scopeS (stAt (bodyS (stAt pw.main.body 16)) 12)) (bodyS (stAt (bodyS (stAt pw.main.body 16)) 12)) (sSeq bm_enter) from
    (BlSim.cons (SSim.assign rfl (by decide) (.inl (by kernel_rfl)) (ESim.item (ESim.var 9 _ rfl (by decide) (.inl (by kernel_rfl)) (by kernel_rfl)) (ESim.cInt _ _ _) rfl) (fun _ _ => rfl))
    (BlSim.cons (SSim.assign rfl (by decide) (.inl (by kernel_rfl)) (ESim.item (ESim.attr 36 T.ok T.co (ESim.var 13 _ rfl (by decide) (.inl (by kernel_rfl)) (by kernel_rfl)) (fun _ _ => rfl) (fun _ _ => rfl) rfl (by decide) T.a_domains) (ESim.var 10 _ rfl (by decide) (.inl (by kernel_rfl)) (by kernel_rfl)) rfl) (fun _ _ => rfl))
    (BlSim.cons (SSim.assign rfl (by decide) (.inl (by kernel_rfl)) (ESim.call T.ok (by kernel_rfl) T.g_struck (by kernel_rfl) T.if_struck.keep ((sf_struck T).up (by decide)) (.cons (ESim.var 9 _ rfl (by decide) (.inl (by kernel_rfl)) (by kernel_rfl)) (.cons (ESim.var 17 _ rfl (by decide) (.inl (by kernel_rfl)) (by kernel_rfl)) .nil)) rfl) (fun _ _ => rfl))
    (BlSim.cons (SSim.ite (TSim.cmp (ESim.var 18 _ rfl (by decide) (.inl (by kernel_rfl)) (by kernel_rfl)) (ESim.tup .nil rfl (by decide)) op_eq (by kernel_rfl)) (BlSim.cons (SSim.ret (ESim.methF T.ok T.co (ESim.var 13 _ rfl (by decide) (.inl (by kernel_rfl)) (by kernel_rfl)) (fun _ _ => rfl) T.nm_fail T.tm_fail T.im_fail ((sm_fail T).up (by decide)) (.cons (ESim.bin (ESim.ite (TSim.cmp (ESim.var 15 _ rfl (by decide) (.inl (by kernel_rfl)) (by kernel_rfl)) (ESim.cNone _ _) op_isNone (by kernel_rfl)) (ESim.tup .nil rfl (by decide)) (ESim.var 15 _ rfl (by decide) (.inl (by kernel_rfl)) (by kernel_rfl))) (ESim.tup (.cons (ESim.call T.ok (by kernel_rfl) T.g_negation (by kernel_rfl) T.if_negation.keep ((sf_negation T).up (by decide)) (.cons (ESim.var 9 _ rfl (by decide) (.inl (by kernel_rfl)) (by kernel_rfl)) .nil) rfl) .nil) rfl (by decide)) op_add) .nil) rfl (by decide) (by kernel_rfl) (by kernel_rfl)))
    BlSim.nil) BlSim.nil)
    (BlSim.cons (SSim.ite (TSim.cmp (ESim.var 18 _ rfl (by decide) (.inl (by kernel_rfl)) (by kernel_rfl)) (ESim.var 17 _ rfl (by decide) (.inl (by kernel_rfl)) (by kernel_rfl)) op_eq (by kernel_rfl)) (BlSim.cons (SSim.ret (ESim.cBool _ _ _))
    BlSim.nil) BlSim.nil)
    (BlSim.cons (SSim.expr (ESim.append (ESim.attr 37 T.ok T.co (ESim.var 13 _ rfl (by decide) (.inl (by kernel_rfl)) (by kernel_rfl)) (fun _ _ => rfl) (fun _ _ => rfl) rfl (by decide) T.a_trail) (fun _ _ => rfl) (ESim.tup (.cons (ESim.var 10 _ rfl (by decide) (.inl (by kernel_rfl)) (by kernel_rfl)) (.cons (ESim.var 17 _ rfl (by decide) (.inl (by kernel_rfl)) (by kernel_rfl)) (.cons (ESim.var 9 _ rfl (by decide) (.inl (by kernel_rfl)) (by kernel_rfl)) (.cons (ESim.var 15 _ rfl (by decide) (.inl (by kernel_rfl)) (by kernel_rfl)) (.cons (ESim.var 16 _ rfl (by decide) (.inl (by kernel_rfl)) (by kernel_rfl)) .nil))))) rfl (by decide)) rfl (by kernel_rfl)) (fun _ => rfl))
    (BlSim.cons (SSim.itemSet (ESim.attr 36 T.ok T.co (ESim.var 13 _ rfl (by decide) (.inl (by kernel_rfl)) (by kernel_rfl)) (fun _ _ => rfl) (fun _ _ => rfl) rfl (by decide) T.a_domains) (ESim.var 10 _ rfl (by decide) (.inl (by kernel_rfl)) (by kernel_rfl)) (ESim.var 18 _ rfl (by decide) (.inl (by kernel_rfl)) (by kernel_rfl)) (fun _ => rfl))
    (BlSim.cons (SSim.itemSet (ESim.attr 39 T.ok T.co (ESim.var 13 _ rfl (by decide) (.inl (by kernel_rfl)) (by kernel_rfl)) (fun _ _ => rfl) (fun _ _ => rfl) rfl (by decide) T.a_news) (ESim.var 10 _ rfl (by decide) (.inl (by kernel_rfl)) (by kernel_rfl)) (ESim.cBool _ _ _) (fun _ => rfl))
    (BlSim.cons (SSim.ret (ESim.cBool _ _ _))
    BlSim.nil))))))))))
theorem sm_strike {W : Wd} (T : TopOk W) : FSim W 5 (.ref 197) m_strike := FSim.of T.ok T.im_strike (show BlSim W 4 (scopeS (stAt (bodyS (stAt pw.main.body 16)) 13)) (bodyS (stAt (bodyS (stAt pw.main.body 16)) 13)) (sSeq bm_strike) from
    (BlSim.cons (SSim.ret (ESim.methF T.ok T.co (ESim.var 13 _ rfl (by decide) (.inl (by kernel_rfl)) (by kernel_rfl)) (fun _ _ => rfl) T.nm_enter T.tm_enter T.im_enter ((sm_enter T).up (by decide)) (.cons (ESim.var 9 _ rfl (by decide) (.inl (by kernel_rfl)) (by kernel_rfl)) (.cons (ESim.call1 T.ok (by kernel_rfl) T.g_tuple (by kernel_rfl) (keepOk_type _) op_tuple (ESim.var 15 _ rfl (by decide) (.inl (by kernel_rfl)) (by kernel_rfl)) rfl) (.cons (ESim.attr 16 T.ok T.co (ESim.var 13 _ rfl (by decide) (.inl (by kernel_rfl)) (by kernel_rfl)) (fun _ _ => rfl) (fun _ _ => rfl) rfl (by decide) T.a_speaker) .nil))) rfl (by decide) (by kernel_rfl) (by kernel_rfl)))
    BlSim.nil))
theorem sm_decide {W : Wd} (T : TopOk W) : FSim W 5 (.ref 204) m_decide := FSim.of T.ok T.im_decide (show BlSim W 4 (scopeS (stAt (bodyS (stAt pw.main.body 16)) 14)) (bodyS (stAt (bodyS (stAt pw.main.body 16)) 14)) (sSeq bm_decide) from
    (BlSim.cons (SSim.ret (ESim.methF T.ok T.co (ESim.var 13 _ rfl (by decide) (.inl (by kernel_rfl)) (by kernel_rfl)) (fun _ _ => rfl) T.nm_enter T.tm_enter T.im_enter ((sm_enter T).up (by decide)) (.cons (ESim.var 9 _ rfl (by decide) (.inl (by kernel_rfl)) (by kernel_rfl)) (.cons (ESim.cNone _ _) (.cons (ESim.un (ESim.cInt _ _ _) op_neg) .nil))) rfl (by decide) (by kernel_rfl) (by kernel_rfl)))
    BlSim.nil))
theorem sm_push {W : Wd} (T : TopOk W) : FSim W 1 (.ref 218) m_push := FSim.of T.ok T.im_push (show BlSim W 0 (scopeS (stAt (bodyS (stAt pw.main.body 16)) 16)) (bodyS (stAt (bodyS (stAt pw.main.body 16)) 16)) (sSeq bm_push) from
    (BlSim.cons (SSim.expr (ESim.append (ESim.attr 38 T.ok T.co (ESim.var 13 _ rfl (by decide) (.inl (by kernel_rfl)) (by kernel_rfl)) (fun _ _ => rfl) (fun _ _ => rfl) rfl (by decide) T.a_marks) (fun _ _ => rfl) (ESim.call1 T.ok (by kernel_rfl) T.g_len (by kernel_rfl) (keepOk_builtin _) op_len (ESim.attr 37 T.ok T.co (ESim.var 13 _ rfl (by decide) (.inl (by kernel_rfl)) (by kernel_rfl)) (fun _ _ => rfl) (fun _ _ => rfl) rfl (by decide) T.a_trail) rfl) rfl (by kernel_rfl)) (fun _ => rfl))
    BlSim.nil))
theorem sm_pop {W : Wd} (T : TopOk W) : FSim W 1 (.ref 225) m_pop := FSim.of T.ok T.im_pop (show BlSim W 0 (scopeS (stAt (bodyS (stAt pw.main.body 16)) 17)) (bodyS (stAt (bodyS (stAt pw.main.body 16)) 17)) (sSeq bm_pop) from
    (BlSim.cons (SSim.ite (TSim.cmp (ESim.var 19 _ rfl (by decide) (.inl (by kernel_rfl)) (by kernel_rfl)) (ESim.cInt _ _ _) op_lt (by kernel_rfl)) (BlSim.cons SSim.retNone
    BlSim.nil) BlSim.nil)
    (BlSim.cons (SSim.assign rfl (by decide) (.inl (by kernel_rfl)) (ESim.item (ESim.attr 38 T.ok T.co (ESim.var 13 _ rfl (by decide) (.inl (by kernel_rfl)) (by kernel_rfl)) (fun _ _ => rfl) (fun _ _ => rfl) rfl (by decide) T.a_marks) (ESim.bin (ESim.call1 T.ok (by kernel_rfl) T.g_len (by kernel_rfl) (keepOk_builtin _) op_len (ESim.attr 38 T.ok T.co (ESim.var 13 _ rfl (by decide) (.inl (by kernel_rfl)) (by kernel_rfl)) (fun _ _ => rfl) (fun _ _ => rfl) rfl (by decide) T.a_marks) rfl) (ESim.var 19 _ rfl (by decide) (.inl (by kernel_rfl)) (by kernel_rfl)) op_sub) rfl) (fun _ _ => rfl))
    (BlSim.cons (SSim.attrSet 38 T.ok T.co (ESim.var 13 _ rfl (by decide) (.inl (by kernel_rfl)) (by kernel_rfl)) (ESim.takeM (ESim.attr 38 T.ok T.co (ESim.var 13 _ rfl (by decide) (.inl (by kernel_rfl)) (by kernel_rfl)) (fun _ _ => rfl) (fun _ _ => rfl) rfl (by decide) T.a_marks) (ESim.bin (ESim.call1 T.ok (by kernel_rfl) T.g_len (by kernel_rfl) (keepOk_builtin _) op_len (ESim.attr 38 T.ok T.co (ESim.var 13 _ rfl (by decide) (.inl (by kernel_rfl)) (by kernel_rfl)) (fun _ _ => rfl) (fun _ _ => rfl) rfl (by decide) T.a_marks) rfl) (ESim.var 19 _ rfl (by decide) (.inl (by kernel_rfl)) (by kernel_rfl)) op_sub)) rfl (by decide) T.a_marks (fun _ => rfl))
    (BlSim.cons (SSim.whileS (TSim.cmp (ESim.call1 T.ok (by kernel_rfl) T.g_len (by kernel_rfl) (keepOk_builtin _) op_len (ESim.attr 37 T.ok T.co (ESim.var 13 _ rfl (by decide) (.inl (by kernel_rfl)) (by kernel_rfl)) (fun _ _ => rfl) (fun _ _ => rfl) rfl (by decide) T.a_trail) rfl) (ESim.var 20 _ rfl (by decide) (.inl (by kernel_rfl)) (by kernel_rfl)) op_gt (by kernel_rfl)) (BlSim.cons (SSim.assign rfl (by decide) (.inl (by kernel_rfl)) (ESim.pop (ESim.attr 37 T.ok T.co (ESim.var 13 _ rfl (by decide) (.inl (by kernel_rfl)) (by kernel_rfl)) (fun _ _ => rfl) (fun _ _ => rfl) rfl (by decide) T.a_trail) (fun _ _ => rfl) (by kernel_rfl)) (fun _ _ => rfl))
    (BlSim.cons (SSim.itemSet (ESim.attr 36 T.ok T.co (ESim.var 13 _ rfl (by decide) (.inl (by kernel_rfl)) (by kernel_rfl)) (fun _ _ => rfl) (fun _ _ => rfl) rfl (by decide) T.a_domains) (ESim.item (ESim.var 21 _ rfl (by decide) (.inl (by kernel_rfl)) (by kernel_rfl)) (ESim.cInt _ _ _) rfl) (ESim.item (ESim.var 21 _ rfl (by decide) (.inl (by kernel_rfl)) (by kernel_rfl)) (ESim.cInt _ _ _) rfl) (fun _ => rfl))
    BlSim.nil)))
    (BlSim.cons (SSim.attrSet 39 T.ok T.co (ESim.var 13 _ rfl (by decide) (.inl (by kernel_rfl)) (by kernel_rfl)) ESim.newIDict rfl (by decide) T.a_news (fun _ => rfl))
    (BlSim.cons (SSim.attrSet 40 T.ok T.co (ESim.var 13 _ rfl (by decide) (.inl (by kernel_rfl)) (by kernel_rfl)) (ESim.cmp (ESim.tup .nil rfl (by decide)) (ESim.attr 30 T.ok T.co (ESim.var 13 _ rfl (by decide) (.inl (by kernel_rfl)) (by kernel_rfl)) (fun _ _ => rfl) (fun _ _ => rfl) rfl (by decide) T.a_firsts) op_in (by kernel_rfl)) rfl (by decide) T.a_is_failed (fun _ => rfl))
    (BlSim.cons (SSim.attrSet 35 T.ok T.co (ESim.var 13 _ rfl (by decide) (.inl (by kernel_rfl)) (by kernel_rfl)) (ESim.tup .nil rfl (by decide)) rfl (by decide) T.a_clash (fun _ => rfl))
    BlSim.nil))))))))
theorem sm_depth {W : Wd} (T : TopOk W) : FSim W 1 (.ref 232) m_depth := FSim.of T.ok T.im_depth (show BlSim W 0 (scopeS (stAt (bodyS (stAt pw.main.body 16)) 18)) (bodyS (stAt (bodyS (stAt pw.main.body 16)) 18)) (sSeq bm_depth) from
    (BlSim.cons (SSim.ret (ESim.call1 T.ok (by kernel_rfl) T.g_len (by kernel_rfl) (keepOk_builtin _) op_len (ESim.attr 38 T.ok T.co (ESim.var 13 _ rfl (by decide) (.inl (by kernel_rfl)) (by kernel_rfl)) (fun _ _ => rfl) (fun _ _ => rfl) rfl (by decide) T.a_marks) rfl))
    BlSim.nil))
theorem sm_changed {W : Wd} (T : TopOk W) : FSim W 1 (.ref 239) m_changed := FSim.of T.ok T.im_changed (show BlSim W 0 (scopeS (stAt (bodyS (stAt pw.main.body 16)) 19)) (bodyS (stAt (bodyS (stAt pw.main.body 16)) 19)) (sSeq bm_changed) from
    (BlSim.cons (SSim.assign rfl (by decide) (.inl (by kernel_rfl)) (ESim.sortedKeys T.ok (by kernel_rfl) T.g_sorted (ESim.attr 39 T.ok T.co (ESim.var 13 _ rfl (by decide) (.inl (by kernel_rfl)) (by kernel_rfl)) (fun _ _ => rfl) (fun _ _ => rfl) rfl (by decide) T.a_news) rfl) (fun _ _ => rfl))
    (BlSim.cons (SSim.attrSet 39 T.ok T.co (ESim.var 13 _ rfl (by decide) (.inl (by kernel_rfl)) (by kernel_rfl)) ESim.newIDict rfl (by decide) T.a_news (fun _ => rfl))
    (BlSim.cons (SSim.ret (ESim.var 6 _ rfl (by decide) (.inl (by kernel_rfl)) (by kernel_rfl)))
    BlSim.nil))))
theorem sf_law_draw {W : Wd} (T : TopOk W) : FSim W 1 (.ref 253) f_law_draw := FSim.of T.ok T.if_law_draw (show BlSim W 0 (scopeS (stAt pw.main.body 18)) (bodyS (stAt pw.main.body 18)) (sSeq bf_law_draw) from
    (BlSim.cons (SSim.assign rfl (by decide) (.inl (by kernel_rfl)) (ESim.key 42 (ESim.var 22 _ rfl (by decide) (.inl (by kernel_rfl)) (by kernel_rfl)) rfl (by decide)) (fun _ _ => rfl))
    (BlSim.cons (SSim.keySet 42 (ESim.var 22 _ rfl (by decide) (.inl (by kernel_rfl)) (by kernel_rfl)) (ESim.bin (ESim.var 4 _ rfl (by decide) (.inl (by kernel_rfl)) (by kernel_rfl)) (ESim.cInt _ _ _) op_add) rfl (by decide) (fun _ => rfl))
    (BlSim.cons (SSim.ite (TSim.cmp (ESim.var 4 _ rfl (by decide) (.inl (by kernel_rfl)) (by kernel_rfl)) (ESim.call1 T.ok (by kernel_rfl) T.g_len (by kernel_rfl) (keepOk_builtin _) op_len (ESim.key 41 (ESim.var 22 _ rfl (by decide) (.inl (by kernel_rfl)) (by kernel_rfl)) rfl (by decide)) rfl) op_lt (by kernel_rfl)) (BlSim.cons (SSim.ret (ESim.bin (ESim.call1 T.ok (by kernel_rfl) T.g_abs (by kernel_rfl) (keepOk_builtin _) op_abs (ESim.item (ESim.key 41 (ESim.var 22 _ rfl (by decide) (.inl (by kernel_rfl)) (by kernel_rfl)) rfl (by decide)) (ESim.var 4 _ rfl (by decide) (.inl (by kernel_rfl)) (by kernel_rfl)) rfl) rfl) (ESim.var 23 _ rfl (by decide) (.inl (by kernel_rfl)) (by kernel_rfl)) op_mod))
    BlSim.nil) BlSim.nil)
    (BlSim.cons (SSim.ret (ESim.bin (ESim.bin (ESim.bin (ESim.bin (ESim.bin (ESim.bin (ESim.cInt _ _ _) (ESim.key 43 (ESim.var 22 _ rfl (by decide) (.inl (by kernel_rfl)) (by kernel_rfl)) rfl (by decide)) op_mul) (ESim.bin (ESim.bin (ESim.cInt _ _ _) (ESim.var 4 _ rfl (by decide) (.inl (by kernel_rfl)) (by kernel_rfl)) op_mul) (ESim.var 4 _ rfl (by decide) (.inl (by kernel_rfl)) (by kernel_rfl)) op_mul) op_add) (ESim.bin (ESim.cInt _ _ _) (ESim.var 4 _ rfl (by decide) (.inl (by kernel_rfl)) (by kernel_rfl)) op_mul) op_add) (ESim.cInt _ _ _) op_add) (ESim.cInt _ _ _) op_mod) (ESim.var 23 _ rfl (by decide) (.inl (by kernel_rfl)) (by kernel_rfl)) op_mod))
    BlSim.nil)))))
theorem sf_law_ranges {W : Wd} (T : TopOk W) : FSim W 1 (.ref 260) f_law_ranges := FSim.of T.ok T.if_law_ranges (show BlSim W 0 (scopeS (stAt pw.main.body 19)) (bodyS (stAt pw.main.body 19)) (sSeq bf_law_ranges) from
    (BlSim.cons (SSim.assign rfl (by decide) (.inl (by kernel_rfl)) ESim.newList (fun _ _ => rfl))
    (BlSim.cons (SSim.forS (fun _ _ => rfl) (ISim.val (ESim.var 24 _ rfl (by decide) (.inl (by kernel_rfl)) (by kernel_rfl))) (.one rfl (by decide) (.inl (by kernel_rfl))) (BlSim.cons (SSim.ite (TSim.and (TSim.cmp (ESim.var 6 _ rfl (by decide) (.inl (by kernel_rfl)) (by kernel_rfl)) (ESim.lst .nil rfl (by decide)) op_ne (by kernel_rfl)) (TSim.cmp (ESim.bin (ESim.item (ESim.item (ESim.var 6 _ rfl (by decide) (.inl (by kernel_rfl)) (by kernel_rfl)) (ESim.un (ESim.cInt _ _ _) op_neg) rfl) (ESim.cInt _ _ _) rfl) (ESim.cInt _ _ _) op_add) (ESim.var 1 _ rfl (by decide) (.inl (by kernel_rfl)) (by kernel_rfl)) op_eq (by kernel_rfl))) (BlSim.cons (SSim.itemSet (ESim.var 6 _ rfl (by decide) (.inl (by kernel_rfl)) (by kernel_rfl)) (ESim.un (ESim.cInt _ _ _) op_neg) (ESim.tup (.cons (ESim.item (ESim.item (ESim.var 6 _ rfl (by decide) (.inl (by kernel_rfl)) (by kernel_rfl)) (ESim.un (ESim.cInt _ _ _) op_neg) rfl) (ESim.cInt _ _ _) rfl) (.cons (ESim.var 1 _ rfl (by decide) (.inl (by kernel_rfl)) (by kernel_rfl)) .nil)) rfl (by decide)) (fun _ => rfl))
    BlSim.nil) (BlSim.cons (SSim.expr (ESim.append (ESim.var 6 _ rfl (by decide) (.inl (by kernel_rfl)) (by kernel_rfl)) (fun _ _ => rfl) (ESim.tup (.cons (ESim.var 1 _ rfl (by decide) (.inl (by kernel_rfl)) (by kernel_rfl)) (.cons (ESim.var 1 _ rfl (by decide) (.inl (by kernel_rfl)) (by kernel_rfl)) .nil)) rfl (by decide)) rfl (by kernel_rfl)) (fun _ => rfl))
    BlSim.nil))
    BlSim.nil))
    (BlSim.cons (SSim.ret (ESim.call1 T.ok (by kernel_rfl) T.g_tuple (by kernel_rfl) (keepOk_type _) op_tuple (ESim.var 6 _ rfl (by decide) (.inl (by kernel_rfl)) (by kernel_rfl)) rfl))
    BlSim.nil))))
theorem sf_law_keeps {W : Wd} (T : TopOk W) : FSim W 1 (.ref 267) f_law_keeps := FSim.of T.ok T.if_law_keeps (show BlSim W 0 (scopeS (stAt pw.main.body 20)) (bodyS (stAt pw.main.body 20)) (sSeq bf_law_keeps) from
    (BlSim.cons (SSim.ite (TSim.or (TSim.cmp (ESim.var 11 _ rfl (by decide) (.inl (by kernel_rfl)) (by kernel_rfl)) (ESim.cStr _ _ _) op_eq (by kernel_rfl)) (TSim.cmp (ESim.var 11 _ rfl (by decide) (.inl (by kernel_rfl)) (by kernel_rfl)) (ESim.cStr _ _ _) op_eq (by kernel_rfl))) (BlSim.cons (SSim.ret (ESim.ite (TSim.cmp (ESim.var 11 _ rfl (by decide) (.inl (by kernel_rfl)) (by kernel_rfl)) (ESim.cStr _ _ _) op_eq (by kernel_rfl)) (ESim.cmp (ESim.var 1 _ rfl (by decide) (.inl (by kernel_rfl)) (by kernel_rfl)) (ESim.var 4 _ rfl (by decide) (.inl (by kernel_rfl)) (by kernel_rfl)) op_le (by kernel_rfl)) (ESim.cmp (ESim.var 1 _ rfl (by decide) (.inl (by kernel_rfl)) (by kernel_rfl)) (ESim.var 4 _ rfl (by decide) (.inl (by kernel_rfl)) (by kernel_rfl)) op_ge (by kernel_rfl))))
    BlSim.nil) BlSim.nil)
    (BlSim.cons (SSim.ret (ESim.ite (TSim.cmp (ESim.var 11 _ rfl (by decide) (.inl (by kernel_rfl)) (by kernel_rfl)) (ESim.cStr _ _ _) op_eq (by kernel_rfl)) (ESim.cmp (ESim.var 1 _ rfl (by decide) (.inl (by kernel_rfl)) (by kernel_rfl)) (ESim.var 4 _ rfl (by decide) (.inl (by kernel_rfl)) (by kernel_rfl)) op_eq (by kernel_rfl)) (ESim.cmp (ESim.var 1 _ rfl (by decide) (.inl (by kernel_rfl)) (by kernel_rfl)) (ESim.var 4 _ rfl (by decide) (.inl (by kernel_rfl)) (by kernel_rfl)) op_ne (by kernel_rfl))))
    BlSim.nil)))
theorem sf_law_against {W : Wd} (T : TopOk W) : FSim W 1 (.ref 274) f_law_against := FSim.of T.ok T.if_law_against (show BlSim W 0 (scopeS (stAt pw.main.body 21)) (bodyS (stAt pw.main.body 21)) (sSeq bf_law_against) from
    (BlSim.cons (SSim.unpack (ESim.var 9 _ rfl (by decide) (.inl (by kernel_rfl)) (by kernel_rfl)) (.cons rfl (by decide) (.inl (by kernel_rfl)) (.cons rfl (by decide) (.inl (by kernel_rfl)) (.cons rfl (by decide) (.inl (by kernel_rfl)) .nil))) (fun _ => rfl) (fun _ => rfl))
    (BlSim.cons (SSim.ite (TSim.or (TSim.cmp (ESim.var 11 _ rfl (by decide) (.inl (by kernel_rfl)) (by kernel_rfl)) (ESim.cStr _ _ _) op_eq (by kernel_rfl)) (TSim.cmp (ESim.var 11 _ rfl (by decide) (.inl (by kernel_rfl)) (by kernel_rfl)) (ESim.cStr _ _ _) op_eq (by kernel_rfl))) (BlSim.cons (SSim.ret (ESim.ite (TSim.cmp (ESim.var 11 _ rfl (by decide) (.inl (by kernel_rfl)) (by kernel_rfl)) (ESim.cStr _ _ _) op_eq (by kernel_rfl)) (ESim.tup (.cons (ESim.var 10 _ rfl (by decide) (.inl (by kernel_rfl)) (by kernel_rfl)) (.cons (ESim.cStr _ _ _) (.cons (ESim.bin (ESim.var 4 _ rfl (by decide) (.inl (by kernel_rfl)) (by kernel_rfl)) (ESim.cInt _ _ _) op_add) .nil))) rfl (by decide)) (ESim.tup (.cons (ESim.var 10 _ rfl (by decide) (.inl (by kernel_rfl)) (by kernel_rfl)) (.cons (ESim.cStr _ _ _) (.cons (ESim.bin (ESim.var 4 _ rfl (by decide) (.inl (by kernel_rfl)) (by kernel_rfl)) (ESim.cInt _ _ _) op_sub) .nil))) rfl (by decide))))
    BlSim.nil) BlSim.nil)
    (BlSim.cons (SSim.ret (ESim.tup (.cons (ESim.var 10 _ rfl (by decide) (.inl (by kernel_rfl)) (by kernel_rfl)) (.cons (ESim.ite (TSim.cmp (ESim.var 11 _ rfl (by decide) (.inl (by kernel_rfl)) (by kernel_rfl)) (ESim.cStr _ _ _) op_eq (by kernel_rfl)) (ESim.cStr _ _ _) (ESim.cStr _ _ _)) (.cons (ESim.var 4 _ rfl (by decide) (.inl (by kernel_rfl)) (by kernel_rfl)) .nil))) rfl (by decide)))
    BlSim.nil))))
theorem sf_law_literal {W : Wd} (T : TopOk W) : FSim W 2 (.ref 281) f_law_literal := FSim.of T.ok T.if_law_literal (show BlSim W 1 (scopeS (stAt pw.main.body 22)) (bodyS (stAt pw.main.body 22)) (sSeq bf_law_literal) from
    (BlSim.cons (SSim.assignTupSw (.cons (ESim.call T.ok (by kernel_rfl) T.g_law_draw (by kernel_rfl) T.if_law_draw.keep ((sf_law_draw T).up (by decide)) (.cons (ESim.var 22 _ rfl (by decide) (.inl (by kernel_rfl)) (by kernel_rfl)) (.cons (ESim.var 23 _ rfl (by decide) (.inl (by kernel_rfl)) (by kernel_rfl)) .nil)) rfl) (.cons (ESim.item (ESim.lst (.cons (ESim.cStr _ _ _) (.cons (ESim.cStr _ _ _) (.cons (ESim.cStr _ _ _) (.cons (ESim.cStr _ _ _) .nil)))) rfl (by decide)) (ESim.call T.ok (by kernel_rfl) T.g_law_draw (by kernel_rfl) T.if_law_draw.keep ((sf_law_draw T).up (by decide)) (.cons (ESim.var 22 _ rfl (by decide) (.inl (by kernel_rfl)) (by kernel_rfl)) (.cons (ESim.cInt _ _ _) .nil)) rfl) rfl) .nil)) rfl (by decide) (by decide) (by intro k hk; simp only [List.mem_cons, List.not_mem_nil, or_false] at hk; rcases hk with rfl | rfl <;> exact ⟨by decide, by kernel_rfl⟩) (by intro env h; cases env; subst h; kernel_rfl))
    (BlSim.cons (SSim.ret (ESim.tup (.cons (ESim.var 10 _ rfl (by decide) (.inl (by kernel_rfl)) (by kernel_rfl)) (.cons (ESim.var 11 _ rfl (by decide) (.inl (by kernel_rfl)) (by kernel_rfl)) (.cons (ESim.bin (ESim.call T.ok (by kernel_rfl) T.g_law_draw (by kernel_rfl) T.if_law_draw.keep ((sf_law_draw T).up (by decide)) (.cons (ESim.var 22 _ rfl (by decide) (.inl (by kernel_rfl)) (by kernel_rfl)) (.cons (ESim.cInt _ _ _) .nil)) rfl) (ESim.cInt _ _ _) op_sub) .nil))) rfl (by decide)))
    BlSim.nil)))
theorem sf_law_numbers {W : Wd} (T : TopOk W) : FSim W 2 (.ref 286) f_law_numbers := FSim.of T.ok T.if_law_numbers (show BlSim W 1 (scopeS (stAt pw.main.body 23)) (bodyS (stAt pw.main.body 23)) (sSeq bf_law_numbers) from
    (BlSim.cons (SSim.assign rfl (by decide) (.inr (by kernel_rfl)) (ESim.bin (ESim.call T.ok (by kernel_rfl) T.g_law_draw (by kernel_rfl) T.if_law_draw.keep ((sf_law_draw T).up (by decide)) (.cons (ESim.var 22 _ rfl (by decide) (.inl (by kernel_rfl)) (by kernel_rfl)) (.cons (ESim.cInt _ _ _) .nil)) rfl) (ESim.cInt _ _ _) op_sub) (fun _ _ => rfl))
    (BlSim.cons (SSim.assignTup (.cons (ESim.bin (ESim.cInt _ _ _) (ESim.call T.ok (by kernel_rfl) T.g_law_draw (by kernel_rfl) T.if_law_draw.keep ((sf_law_draw T).up (by decide)) (.cons (ESim.var 22 _ rfl (by decide) (.inl (by kernel_rfl)) (by kernel_rfl)) (.cons (ESim.cInt _ _ _) .nil)) rfl) op_add) (.cons (ESim.call T.ok (by kernel_rfl) T.g_law_draw (by kernel_rfl) T.if_law_draw.keep ((sf_law_draw T).up (by decide)) (.cons (ESim.var 22 _ rfl (by decide) (.inl (by kernel_rfl)) (by kernel_rfl)) (.cons (ESim.cInt _ _ _) .nil)) rfl) .nil)) rfl (by decide) (.cons rfl (by decide) (.inl (by kernel_rfl)) (.cons rfl (by decide) (.inr (by kernel_rfl)) .nil)) (by intro env h; cases env; subst h; kernel_rfl))
    (BlSim.cons (SSim.assignUsed rfl (by decide) (.inl (by kernel_rfl)) (fun _ _ => rfl) (by kernel_rfl) (ISim.range2 T.ok (by kernel_rfl) T.g_range (ESim.var 25 _ rfl (by decide) (.inr (by kernel_rfl)) (by kernel_rfl)) (ESim.bin (ESim.var 25 _ rfl (by decide) (.inr (by kernel_rfl)) (by kernel_rfl)) (ESim.var 23 _ rfl (by decide) (.inl (by kernel_rfl)) (by kernel_rfl)) op_add) rfl) (.one rfl (by decide) (.inl (by kernel_rfl))) (htl_one (by kernel_rfl)) (.cons (TSim.cmp (ESim.var 1 _ rfl (by decide) (.inl (by kernel_rfl)) (by kernel_rfl)) (ESim.bin (ESim.var 25 _ rfl (by decide) (.inr (by kernel_rfl)) (by kernel_rfl)) (ESim.var 26 _ rfl (by decide) (.inr (by kernel_rfl)) (by kernel_rfl)) op_add) op_ne (by kernel_rfl)) .nil) (ESim.var 1 _ rfl (by decide) (.inl (by kernel_rfl)) (by kernel_rfl)) (fun env h => swaps_true h (by kernel_rfl)))
    (BlSim.cons (SSim.ret (ESim.ite (TSim.cmp (ESim.var 24 _ rfl (by decide) (.inl (by kernel_rfl)) (by kernel_rfl)) (ESim.lst .nil rfl (by decide)) op_ne (by kernel_rfl)) (ESim.var 24 _ rfl (by decide) (.inl (by kernel_rfl)) (by kernel_rfl)) (ESim.lst (.cons (ESim.var 25 _ rfl (by decide) (.inr (by kernel_rfl)) (by kernel_rfl)) .nil) rfl (by decide))))
    BlSim.nil)))))
theorem sf_law_said {W : Wd} (T : TopOk W) : FSim W 2 (.ref 291) f_law_said := FSim.of T.ok T.if_law_said (show BlSim W 1 (scopeS (stAt pw.main.body 24)) (bodyS (stAt pw.main.body 24)) (sSeq bf_law_said) from
    (BlSim.cons (SSim.assignUsed rfl (by decide) (.inl (by kernel_rfl)) (fun _ _ => rfl) (by kernel_rfl) (ISim.val (ESim.item (ESim.var 27 _ rfl (by decide) (.inl (by kernel_rfl)) (by kernel_rfl)) (ESim.item (ESim.var 9 _ rfl (by decide) (.inr (by kernel_rfl)) (by kernel_rfl)) (ESim.cInt _ _ _) rfl) rfl)) (.one rfl (by decide) (.inl (by kernel_rfl))) (htl_one (by kernel_rfl)) (.cons (TSim.val (ESim.call T.ok (by kernel_rfl) T.g_law_keeps (by kernel_rfl) T.if_law_keeps.keep ((sf_law_keeps T).up (by decide)) (.cons (ESim.var 1 _ rfl (by decide) (.inl (by kernel_rfl)) (by kernel_rfl)) (.cons (ESim.item (ESim.var 9 _ rfl (by decide) (.inr (by kernel_rfl)) (by kernel_rfl)) (ESim.cInt _ _ _) rfl) (.cons (ESim.item (ESim.var 9 _ rfl (by decide) (.inr (by kernel_rfl)) (by kernel_rfl)) (ESim.cInt _ _ _) rfl) .nil))) rfl) (fun _ _ => rfl)) .nil) (ESim.var 1 _ rfl (by decide) (.inl (by kernel_rfl)) (by kernel_rfl)) (fun env h => swaps_true h (by kernel_rfl)))
    (BlSim.cons (SSim.ite (TSim.cmp (ESim.var 12 _ rfl (by decide) (.inl (by kernel_rfl)) (by kernel_rfl)) (ESim.item (ESim.var 27 _ rfl (by decide) (.inl (by kernel_rfl)) (by kernel_rfl)) (ESim.item (ESim.var 9 _ rfl (by decide) (.inr (by kernel_rfl)) (by kernel_rfl)) (ESim.cInt _ _ _) rfl) rfl) op_eq (by kernel_rfl)) (BlSim.cons (SSim.ret (ESim.cInt _ _ _))
    BlSim.nil) BlSim.nil)
    (BlSim.cons (SSim.ret (ESim.ite (TSim.cmp (ESim.var 12 _ rfl (by decide) (.inl (by kernel_rfl)) (by kernel_rfl)) (ESim.lst .nil rfl (by decide)) op_eq (by kernel_rfl)) (ESim.un (ESim.cInt _ _ _) op_neg) (ESim.cInt _ _ _)))
    BlSim.nil))))
theorem sf_law_struck {W : Wd} (T : TopOk W) : FSim W 2 (.ref 296) f_law_struck := FSim.of T.ok T.if_law_struck (show BlSim W 1 (scopeS (stAt pw.main.body 25)) (bodyS (stAt pw.main.body 25)) (sSeq bf_law_struck) from
    (BlSim.cons (SSim.assign rfl (by decide) (.inl (by kernel_rfl)) (ESim.item (ESim.var 9 _ rfl (by decide) (.inr (by kernel_rfl)) (by kernel_rfl)) (ESim.cInt _ _ _) rfl) (fun _ _ => rfl))
    (BlSim.cons (SSim.assign rfl (by decide) (.inl (by kernel_rfl)) (ESim.item (ESim.key 27 (ESim.var 29 _ rfl (by decide) (.inl (by kernel_rfl)) (by kernel_rfl)) rfl (by decide)) (ESim.var 10 _ rfl (by decide) (.inl (by kernel_rfl)) (by kernel_rfl)) rfl) (fun _ _ => rfl))
    (BlSim.cons (SSim.assignUsed rfl (by decide) (.inl (by kernel_rfl)) (fun _ _ => rfl) (by kernel_rfl) (ISim.val (ESim.var 17 _ rfl (by decide) (.inl (by kernel_rfl)) (by kernel_rfl))) (.one rfl (by decide) (.inl (by kernel_rfl))) (htl_one (by kernel_rfl)) (.cons (TSim.val (ESim.call T.ok (by kernel_rfl) T.g_law_keeps (by kernel_rfl) T.if_law_keeps.keep ((sf_law_keeps T).up (by decide)) (.cons (ESim.var 1 _ rfl (by decide) (.inl (by kernel_rfl)) (by kernel_rfl)) (.cons (ESim.item (ESim.var 9 _ rfl (by decide) (.inr (by kernel_rfl)) (by kernel_rfl)) (ESim.cInt _ _ _) rfl) (.cons (ESim.item (ESim.var 9 _ rfl (by decide) (.inr (by kernel_rfl)) (by kernel_rfl)) (ESim.cInt _ _ _) rfl) .nil))) rfl) (fun _ _ => rfl)) .nil) (ESim.var 1 _ rfl (by decide) (.inl (by kernel_rfl)) (by kernel_rfl)) (fun env h => swaps_true h (by kernel_rfl)))
    (BlSim.cons (SSim.ite (TSim.cmp (ESim.var 12 _ rfl (by decide) (.inl (by kernel_rfl)) (by kernel_rfl)) (ESim.lst .nil rfl (by decide)) op_eq (by kernel_rfl)) (BlSim.cons (SSim.ret (ESim.bin (ESim.ite (TSim.cmp (ESim.var 15 _ rfl (by decide) (.inl (by kernel_rfl)) (by kernel_rfl)) (ESim.cNone _ _) op_isNone (by kernel_rfl)) (ESim.tup .nil rfl (by decide)) (ESim.var 15 _ rfl (by decide) (.inl (by kernel_rfl)) (by kernel_rfl))) (ESim.tup (.cons (ESim.call T.ok (by kernel_rfl) T.g_law_against (by kernel_rfl) T.if_law_against.keep ((sf_law_against T).up (by decide)) (.cons (ESim.var 9 _ rfl (by decide) (.inr (by kernel_rfl)) (by kernel_rfl)) .nil) rfl) .nil) rfl (by decide)) op_add))
    BlSim.nil) BlSim.nil)
    (BlSim.cons (SSim.ite (TSim.cmp (ESim.var 12 _ rfl (by decide) (.inl (by kernel_rfl)) (by kernel_rfl)) (ESim.var 17 _ rfl (by decide) (.inl (by kernel_rfl)) (by kernel_rfl)) op_ne (by kernel_rfl)) (BlSim.cons (SSim.keySet 37 (ESim.var 29 _ rfl (by decide) (.inl (by kernel_rfl)) (by kernel_rfl)) (ESim.bin (ESim.key 37 (ESim.var 29 _ rfl (by decide) (.inl (by kernel_rfl)) (by kernel_rfl)) rfl (by decide)) (ESim.lst (.cons (ESim.tup (.cons (ESim.var 10 _ rfl (by decide) (.inl (by kernel_rfl)) (by kernel_rfl)) (.cons (ESim.call T.ok (by kernel_rfl) T.g_law_ranges (by kernel_rfl) T.if_law_ranges.keep ((sf_law_ranges T).up (by decide)) (.cons (ESim.var 17 _ rfl (by decide) (.inl (by kernel_rfl)) (by kernel_rfl)) .nil) rfl) (.cons (ESim.var 9 _ rfl (by decide) (.inr (by kernel_rfl)) (by kernel_rfl)) (.cons (ESim.var 15 _ rfl (by decide) (.inl (by kernel_rfl)) (by kernel_rfl)) (.cons (ESim.var 16 _ rfl (by decide) (.inl (by kernel_rfl)) (by kernel_rfl)) .nil))))) rfl (by decide)) .nil) rfl (by decide)) op_add) rfl (by decide) (fun _ => rfl))
    (BlSim.cons (SSim.keySet 27 (ESim.var 29 _ rfl (by decide) (.inl (by kernel_rfl)) (by kernel_rfl)) (ESim.bin (ESim.bin (ESim.take (ESim.key 27 (ESim.var 29 _ rfl (by decide) (.inl (by kernel_rfl)) (by kernel_rfl)) rfl (by decide)) (ESim.var 10 _ rfl (by decide) (.inl (by kernel_rfl)) (by kernel_rfl))) (ESim.lst (.cons (ESim.var 12 _ rfl (by decide) (.inl (by kernel_rfl)) (by kernel_rfl)) .nil) rfl (by decide)) op_add) (ESim.drop (ESim.key 27 (ESim.var 29 _ rfl (by decide) (.inl (by kernel_rfl)) (by kernel_rfl)) rfl (by decide)) (ESim.bin (ESim.var 10 _ rfl (by decide) (.inl (by kernel_rfl)) (by kernel_rfl)) (ESim.cInt _ _ _) op_add)) op_add) rfl (by decide) (fun _ => rfl))
    (BlSim.cons (SSim.keySet 39 (ESim.var 29 _ rfl (by decide) (.inl (by kernel_rfl)) (by kernel_rfl)) (ESim.sortedSet T.ok (by kernel_rfl) T.g_sorted (by kernel_rfl) T.g_set (ESim.bin (ESim.key 39 (ESim.var 29 _ rfl (by decide) (.inl (by kernel_rfl)) (by kernel_rfl)) rfl (by decide)) (ESim.lst (.cons (ESim.var 10 _ rfl (by decide) (.inl (by kernel_rfl)) (by kernel_rfl)) .nil) rfl (by decide)) op_add) rfl) rfl (by decide) (fun _ => rfl))
    BlSim.nil))) BlSim.nil)
    (BlSim.cons (SSim.ret (ESim.cNone _ _))
    BlSim.nil)))))))
theorem sf_law_is_seen {W : Wd} (T : TopOk W) : FSim W 6 (.ref 301) f_law_is_seen := FSim.of T.ok T.if_law_is_seen (show BlSim W 5 (scopeS (stAt pw.main.body 26)) (bodyS (stAt pw.main.body 26)) (sSeq bf_law_is_seen) from
    (BlSim.cons (SSim.forS (fun _ _ => rfl) (ISim.range1 T.ok (by kernel_rfl) T.g_range (ESim.call1 T.ok (by kernel_rfl) T.g_len (by kernel_rfl) (keepOk_builtin _) op_len (ESim.var 30 _ rfl (by decide) (.inl (by kernel_rfl)) (by kernel_rfl)) rfl) rfl) (.one rfl (by decide) (.inr (by kernel_rfl))) (BlSim.cons (SSim.assign rfl (by decide) (.inl (by kernel_rfl)) (ESim.item (ESim.key 27 (ESim.var 29 _ rfl (by decide) (.inl (by kernel_rfl)) (by kernel_rfl)) rfl (by decide)) (ESim.var 10 _ rfl (by decide) (.inr (by kernel_rfl)) (by kernel_rfl)) rfl) (fun _ _ => rfl))
    (BlSim.cons (SSim.ite (TSim.or (TSim.cmp (ESim.methF T.ok T.co (ESim.var 28 _ rfl (by decide) (.inr (by kernel_rfl)) (by kernel_rfl)) (fun _ _ => rfl) T.nm_dom T.tm_dom T.im_dom ((sm_dom T).up (by decide)) (.cons (ESim.var 10 _ rfl (by decide) (.inr (by kernel_rfl)) (by kernel_rfl)) .nil) rfl (by decide) (by kernel_rfl) (by kernel_rfl)) (ESim.call T.ok (by kernel_rfl) T.g_law_ranges (by kernel_rfl) T.if_law_ranges.keep ((sf_law_ranges T).up (by decide)) (.cons (ESim.var 24 _ rfl (by decide) (.inl (by kernel_rfl)) (by kernel_rfl)) .nil) rfl) op_ne (by kernel_rfl)) (TSim.cmp (ESim.methF T.ok T.co (ESim.var 28 _ rfl (by decide) (.inr (by kernel_rfl)) (by kernel_rfl)) (fun _ _ => rfl) T.nm_initial T.tm_initial T.im_initial ((sm_initial T).up (by decide)) (.cons (ESim.var 10 _ rfl (by decide) (.inr (by kernel_rfl)) (by kernel_rfl)) .nil) rfl (by decide) (by kernel_rfl) (by kernel_rfl)) (ESim.call T.ok (by kernel_rfl) T.g_law_ranges (by kernel_rfl) T.if_law_ranges.keep ((sf_law_ranges T).up (by decide)) (.cons (ESim.item (ESim.var 30 _ rfl (by decide) (.inl (by kernel_rfl)) (by kernel_rfl)) (ESim.var 10 _ rfl (by decide) (.inr (by kernel_rfl)) (by kernel_rfl)) rfl) .nil) rfl) op_ne (by kernel_rfl))) (BlSim.cons (SSim.ret (ESim.cBool _ _ _))
    BlSim.nil) BlSim.nil)
    (BlSim.cons (SSim.ite (TSim.cmp (ESim.tup (.cons (ESim.methF T.ok T.co (ESim.var 28 _ rfl (by decide) (.inr (by kernel_rfl)) (by kernel_rfl)) (fun _ _ => rfl) T.nm_low T.tm_low T.im_low ((sm_low T).up (by decide)) (.cons (ESim.var 10 _ rfl (by decide) (.inr (by kernel_rfl)) (by kernel_rfl)) .nil) rfl (by decide) (by kernel_rfl) (by kernel_rfl)) (.cons (ESim.methF T.ok T.co (ESim.var 28 _ rfl (by decide) (.inr (by kernel_rfl)) (by kernel_rfl)) (fun _ _ => rfl) T.nm_high T.tm_high T.im_high ((sm_high T).up (by decide)) (.cons (ESim.var 10 _ rfl (by decide) (.inr (by kernel_rfl)) (by kernel_rfl)) .nil) rfl (by decide) (by kernel_rfl) (by kernel_rfl)) (.cons (ESim.methF T.ok T.co (ESim.var 28 _ rfl (by decide) (.inr (by kernel_rfl)) (by kernel_rfl)) (fun _ _ => rfl) T.nm_width T.tm_width T.im_width ((sm_width T).up (by decide)) (.cons (ESim.var 10 _ rfl (by decide) (.inr (by kernel_rfl)) (by kernel_rfl)) .nil) rfl (by decide) (by kernel_rfl) (by kernel_rfl)) .nil))) rfl (by decide)) (ESim.tup (.cons (ESim.item (ESim.var 24 _ rfl (by decide) (.inl (by kernel_rfl)) (by kernel_rfl)) (ESim.cInt _ _ _) rfl) (.cons (ESim.item (ESim.var 24 _ rfl (by decide) (.inl (by kernel_rfl)) (by kernel_rfl)) (ESim.un (ESim.cInt _ _ _) op_neg) rfl) (.cons (ESim.call1 T.ok (by kernel_rfl) T.g_len (by kernel_rfl) (keepOk_builtin _) op_len (ESim.var 24 _ rfl (by decide) (.inl (by kernel_rfl)) (by kernel_rfl)) rfl) .nil))) rfl (by decide)) op_ne (by kernel_rfl)) (BlSim.cons (SSim.ret (ESim.cBool _ _ _))
    BlSim.nil) BlSim.nil)
    (BlSim.cons (SSim.ite (TSim.or (TSim.cmp (ESim.methF T.ok T.co (ESim.var 28 _ rfl (by decide) (.inr (by kernel_rfl)) (by kernel_rfl)) (fun _ _ => rfl) T.nm_is_fixed T.tm_is_fixed T.im_is_fixed ((sm_is_fixed T).up (by decide)) (.cons (ESim.var 10 _ rfl (by decide) (.inr (by kernel_rfl)) (by kernel_rfl)) .nil) rfl (by decide) (by kernel_rfl) (by kernel_rfl)) (ESim.cmp (ESim.call1 T.ok (by kernel_rfl) T.g_len (by kernel_rfl) (keepOk_builtin _) op_len (ESim.var 24 _ rfl (by decide) (.inl (by kernel_rfl)) (by kernel_rfl)) rfl) (ESim.cInt _ _ _) op_eq (by kernel_rfl)) op_ne (by kernel_rfl)) (TSim.and (TSim.cmp (ESim.call1 T.ok (by kernel_rfl) T.g_len (by kernel_rfl) (keepOk_builtin _) op_len (ESim.var 24 _ rfl (by decide) (.inl (by kernel_rfl)) (by kernel_rfl)) rfl) (ESim.cInt _ _ _) op_eq (by kernel_rfl)) (TSim.cmp (ESim.methF T.ok T.co (ESim.var 28 _ rfl (by decide) (.inr (by kernel_rfl)) (by kernel_rfl)) (fun _ _ => rfl) T.nm_value T.tm_value T.im_value ((sm_value T).up (by decide)) (.cons (ESim.var 10 _ rfl (by decide) (.inr (by kernel_rfl)) (by kernel_rfl)) .nil) rfl (by decide) (by kernel_rfl) (by kernel_rfl)) (ESim.item (ESim.var 24 _ rfl (by decide) (.inl (by kernel_rfl)) (by kernel_rfl)) (ESim.cInt _ _ _) rfl) op_ne (by kernel_rfl)))) (BlSim.cons (SSim.ret (ESim.cBool _ _ _))
    BlSim.nil) BlSim.nil)
    (BlSim.cons (SSim.ite (TSim.cmp (ESim.comp (fun _ _ => rfl) (by kernel_rfl) (ISim.range2 T.ok (by kernel_rfl) T.g_range (ESim.un (ESim.cInt _ _ _) op_neg) (ESim.cInt _ _ _) rfl) (.one rfl (by decide) (.inl (by kernel_rfl))) (htl_one (by kernel_rfl)) (.cons (TSim.val (ESim.methF T.ok T.co (ESim.var 28 _ rfl (by decide) (.inr (by kernel_rfl)) (by kernel_rfl)) (fun _ _ => rfl) T.nm_has T.tm_has T.im_has ((sm_has T).up (by decide)) (.cons (ESim.var 10 _ rfl (by decide) (.inr (by kernel_rfl)) (by kernel_rfl)) (.cons (ESim.var 1 _ rfl (by decide) (.inl (by kernel_rfl)) (by kernel_rfl)) .nil)) rfl (by decide) (by kernel_rfl) (by kernel_rfl)) (fun _ _ => rfl)) .nil) (ESim.var 1 _ rfl (by decide) (.inl (by kernel_rfl)) (by kernel_rfl))) (ESim.var 24 _ rfl (by decide) (.inl (by kernel_rfl)) (by kernel_rfl)) op_ne (by kernel_rfl)) (BlSim.cons (SSim.ret (ESim.cBool _ _ _))
    BlSim.nil) BlSim.nil)
    (BlSim.cons (SSim.forS (fun _ _ => rfl) (ISim.val (ESim.comp2 (fun _ _ => rfl) (fun _ _ => rfl) (by kernel_rfl) (by decide) (ISim.val (ESim.tup (.cons (ESim.cStr _ _ _) (.cons (ESim.cStr _ _ _) (.cons (ESim.cStr _ _ _) (.cons (ESim.cStr _ _ _) .nil)))) rfl (by decide))) (ISim.val (ESim.tup (.cons (ESim.cInt _ _ _) (.cons (ESim.cInt _ _ _) .nil)) rfl (by decide))) (.one rfl (by decide) (.inl (by kernel_rfl))) (htl_one (by kernel_rfl)) (.one rfl (by decide) (.inl (by kernel_rfl))) (htl_one (by kernel_rfl)) (ESim.tup (.cons (ESim.var 10 _ rfl (by decide) (.inr (by kernel_rfl)) (by kernel_rfl)) (.cons (ESim.var 11 _ rfl (by decide) (.inl (by kernel_rfl)) (by kernel_rfl)) (.cons (ESim.var 4 _ rfl (by decide) (.inl (by kernel_rfl)) (by kernel_rfl)) .nil))) rfl (by decide)))) (.one rfl (by decide) (.inl (by kernel_rfl))) (BlSim.cons (SSim.ite (TSim.cmp (ESim.methF T.ok T.co (ESim.var 28 _ rfl (by decide) (.inr (by kernel_rfl)) (by kernel_rfl)) (fun _ _ => rfl) T.nm_holds T.tm_holds T.im_holds ((sm_holds T).up (by decide)) (.cons (ESim.var 9 _ rfl (by decide) (.inl (by kernel_rfl)) (by kernel_rfl)) .nil) rfl (by decide) (by kernel_rfl) (by kernel_rfl)) (ESim.call T.ok (by kernel_rfl) T.g_law_said (by kernel_rfl) T.if_law_said.keep ((sf_law_said T).up (by decide)) (.cons (ESim.key 27 (ESim.var 29 _ rfl (by decide) (.inl (by kernel_rfl)) (by kernel_rfl)) rfl (by decide)) (.cons (ESim.var 9 _ rfl (by decide) (.inl (by kernel_rfl)) (by kernel_rfl)) .nil)) rfl) op_ne (by kernel_rfl)) (BlSim.cons (SSim.ret (ESim.cBool _ _ _))
    BlSim.nil) BlSim.nil)
    BlSim.nil))
    BlSim.nil)))))))
    (BlSim.cons (SSim.ret (ESim.and1 (ESim.cmp (ESim.attr 37 T.ok T.co (ESim.var 28 _ rfl (by decide) (.inr (by kernel_rfl)) (by kernel_rfl)) (fun _ _ => rfl) (fun _ _ => rfl) rfl (by decide) T.a_trail) (ESim.key 37 (ESim.var 29 _ rfl (by decide) (.inl (by kernel_rfl)) (by kernel_rfl)) rfl (by decide)) op_eq (by kernel_rfl)) (ESim.and1 (ESim.cmp (ESim.methF T.ok T.co (ESim.var 28 _ rfl (by decide) (.inr (by kernel_rfl)) (by kernel_rfl)) (fun _ _ => rfl) T.nm_depth T.tm_depth T.im_depth ((sm_depth T).up (by decide)) .nil rfl (by decide) (by kernel_rfl) (by kernel_rfl)) (ESim.call1 T.ok (by kernel_rfl) T.g_len (by kernel_rfl) (keepOk_builtin _) op_len (ESim.key 38 (ESim.var 29 _ rfl (by decide) (.inl (by kernel_rfl)) (by kernel_rfl)) rfl (by decide)) rfl) op_eq (by kernel_rfl)) (ESim.bool1 (ESim.cmp (ESim.methF T.ok T.co (ESim.var 28 _ rfl (by decide) (.inr (by kernel_rfl)) (by kernel_rfl)) (fun _ _ => rfl) T.nm_size T.tm_size T.im_size ((sm_size T).up (by decide)) .nil rfl (by decide) (by kernel_rfl) (by kernel_rfl)) (ESim.call1 T.ok (by kernel_rfl) T.g_len (by kernel_rfl) (keepOk_builtin _) op_len (ESim.var 30 _ rfl (by decide) (.inl (by kernel_rfl)) (by kernel_rfl)) rfl) op_eq (by kernel_rfl))))))
    BlSim.nil)))
theorem sf_law_begun {W : Wd} (T : TopOk W) : FSim W 2 (.ref 308) f_law_begun := FSim.of T.ok T.if_law_begun (show BlSim W 1 (scopeS (stAt pw.main.body 27)) (bodyS (stAt pw.main.body 27)) (sSeq bf_law_begun) from
    (BlSim.cons (SSim.expr (ESim.methF T.ok T.co (ESim.var 28 _ rfl (by decide) (.inl (by kernel_rfl)) (by kernel_rfl)) (fun _ _ => rfl) T.nm_push T.tm_push T.im_push ((sm_push T).up (by decide)) .nil rfl (by decide) (by kernel_rfl) (by kernel_rfl)) (fun _ => rfl))
    (BlSim.cons (SSim.expr (ESim.append (ESim.key 38 (ESim.var 29 _ rfl (by decide) (.inl (by kernel_rfl)) (by kernel_rfl)) rfl (by decide)) (fun _ _ => rfl) (ESim.tup (.cons (ESim.key 27 (ESim.var 29 _ rfl (by decide) (.inl (by kernel_rfl)) (by kernel_rfl)) rfl (by decide)) (.cons (ESim.key 37 (ESim.var 29 _ rfl (by decide) (.inl (by kernel_rfl)) (by kernel_rfl)) rfl (by decide)) .nil)) rfl (by decide)) rfl (by kernel_rfl)) (fun _ => rfl))
    (BlSim.cons (SSim.ret (ESim.un (ESim.attr 40 T.ok T.co (ESim.var 28 _ rfl (by decide) (.inl (by kernel_rfl)) (by kernel_rfl)) (fun _ _ => rfl) (fun _ _ => rfl) rfl (by decide) T.a_is_failed) op_not))
    BlSim.nil))))
theorem sf_law_taken_back {W : Wd} (T : TopOk W) : FSim W 2 (.ref 315) f_law_taken_back := FSim.of T.ok T.if_law_taken_back (show BlSim W 1 (scopeS (stAt pw.main.body 28)) (bodyS (stAt pw.main.body 28)) (sSeq bf_law_taken_back) from
    (BlSim.cons (SSim.expr (ESim.methF T.ok T.co (ESim.var 28 _ rfl (by decide) (.inl (by kernel_rfl)) (by kernel_rfl)) (fun _ _ => rfl) T.nm_pop T.tm_pop T.im_pop ((sm_pop T).up (by decide)) (.cons (ESim.var 23 _ rfl (by decide) (.inl (by kernel_rfl)) (by kernel_rfl)) .nil) rfl (by decide) (by kernel_rfl) (by kernel_rfl)) (fun _ => rfl))
    (BlSim.cons (SSim.forS (fun _ _ => rfl) (ISim.range1 T.ok (by kernel_rfl) T.g_range (ESim.var 23 _ rfl (by decide) (.inl (by kernel_rfl)) (by kernel_rfl)) rfl) (.one rfl (by decide) (.inl (by kernel_rfl))) (BlSim.cons (SSim.keySet2 27 37 (ESim.var 29 _ rfl (by decide) (.inl (by kernel_rfl)) (by kernel_rfl)) (ESim.var 29 _ rfl (by decide) (.inl (by kernel_rfl)) (by kernel_rfl)) (ESim.pop (ESim.key 38 (ESim.var 29 _ rfl (by decide) (.inl (by kernel_rfl)) (by kernel_rfl)) rfl (by decide)) (fun _ _ => rfl) (by kernel_rfl)) rfl rfl (by decide) (by decide) (fun _ => rfl) (fun _ => rfl))
    BlSim.nil))
    (BlSim.cons (SSim.keySet 39 (ESim.var 29 _ rfl (by decide) (.inl (by kernel_rfl)) (by kernel_rfl)) (ESim.lst .nil rfl (by decide)) rfl (by decide) (fun _ => rfl))
    (BlSim.cons (SSim.ret (ESim.and1 (ESim.un (ESim.attr 40 T.ok T.co (ESim.var 28 _ rfl (by decide) (.inl (by kernel_rfl)) (by kernel_rfl)) (fun _ _ => rfl) (fun _ _ => rfl) rfl (by decide) T.a_is_failed) op_not) (ESim.bool1 (ESim.cmp (ESim.attr 35 T.ok T.co (ESim.var 28 _ rfl (by decide) (.inl (by kernel_rfl)) (by kernel_rfl)) (fun _ _ => rfl) (fun _ _ => rfl) rfl (by decide) T.a_clash) (ESim.tup .nil rfl (by decide)) op_eq (by kernel_rfl)))))
    BlSim.nil)))))
theorem sf_law_deed {W : Wd} (T : TopOk W) : FSim W 6 (.ref 320) f_law_deed := FSim.of T.ok T.if_law_deed (show BlSim W 5 (scopeS (stAt pw.main.body 29)) (bodyS (stAt pw.main.body 29)) (sSeq bf_law_deed) from
    (BlSim.cons (SSim.assignTupSw (.cons (ESim.call T.ok (by kernel_rfl) T.g_law_draw (by kernel_rfl) T.if_law_draw.keep ((sf_law_draw T).up (by decide)) (.cons (ESim.var 22 _ rfl (by decide) (.inr (by kernel_rfl)) (by kernel_rfl)) (.cons (ESim.cInt _ _ _) .nil)) rfl) (.cons (ESim.attr 16 T.ok T.co (ESim.var 28 _ rfl (by decide) (.inl (by kernel_rfl)) (by kernel_rfl)) (fun _ _ => rfl) (fun _ _ => rfl) rfl (by decide) T.a_speaker) .nil)) rfl (by decide) (by decide) (by intro k hk; simp only [List.mem_cons, List.not_mem_nil, or_false] at hk; rcases hk with rfl | rfl <;> exact ⟨by decide, by kernel_rfl⟩) (by intro env h; cases env; subst h; kernel_rfl))
    (BlSim.cons (SSim.ite (TSim.cmp (ESim.var 32 _ rfl (by decide) (.inl (by kernel_rfl)) (by kernel_rfl)) (ESim.cInt _ _ _) op_eq (by kernel_rfl)) (BlSim.cons (SSim.ret (ESim.tup (.cons (ESim.call T.ok (by kernel_rfl) T.g_law_begun (by kernel_rfl) T.if_law_begun.keep ((sf_law_begun T).up (by decide)) (.cons (ESim.var 28 _ rfl (by decide) (.inl (by kernel_rfl)) (by kernel_rfl)) (.cons (ESim.var 29 _ rfl (by decide) (.inl (by kernel_rfl)) (by kernel_rfl)) .nil)) rfl) (.cons (ESim.cNone _ _) .nil)) rfl (by decide)))
    BlSim.nil) BlSim.nil)
    (BlSim.cons (SSim.ite (TSim.cmp (ESim.var 32 _ rfl (by decide) (.inl (by kernel_rfl)) (by kernel_rfl)) (ESim.cInt _ _ _) op_eq (by kernel_rfl)) (BlSim.cons (SSim.ret (ESim.tup (.cons (ESim.call T.ok (by kernel_rfl) T.g_law_taken_back (by kernel_rfl) T.if_law_taken_back.keep ((sf_law_taken_back T).up (by decide)) (.cons (ESim.var 28 _ rfl (by decide) (.inl (by kernel_rfl)) (by kernel_rfl)) (.cons (ESim.var 29 _ rfl (by decide) (.inl (by kernel_rfl)) (by kernel_rfl)) (.cons (ESim.bin (ESim.cInt _ _ _) (ESim.call T.ok (by kernel_rfl) T.g_law_draw (by kernel_rfl) T.if_law_draw.keep ((sf_law_draw T).up (by decide)) (.cons (ESim.var 22 _ rfl (by decide) (.inr (by kernel_rfl)) (by kernel_rfl)) (.cons (ESim.call1 T.ok (by kernel_rfl) T.g_len (by kernel_rfl) (keepOk_builtin _) op_len (ESim.key 38 (ESim.var 29 _ rfl (by decide) (.inl (by kernel_rfl)) (by kernel_rfl)) rfl (by decide)) rfl) .nil)) rfl) op_add) .nil))) rfl) (.cons (ESim.cNone _ _) .nil)) rfl (by decide)))
    BlSim.nil) BlSim.nil)
    (BlSim.cons (SSim.assign rfl (by decide) (.inl (by kernel_rfl)) (ESim.call T.ok (by kernel_rfl) T.g_law_literal (by kernel_rfl) T.if_law_literal.keep ((sf_law_literal T).up (by decide)) (.cons (ESim.var 22 _ rfl (by decide) (.inr (by kernel_rfl)) (by kernel_rfl)) (.cons (ESim.var 23 _ rfl (by decide) (.inr (by kernel_rfl)) (by kernel_rfl)) .nil)) rfl) (fun _ _ => rfl))
    (BlSim.cons (SSim.ite (TSim.cmp (ESim.var 32 _ rfl (by decide) (.inl (by kernel_rfl)) (by kernel_rfl)) (ESim.cInt _ _ _) op_eq (by kernel_rfl)) (BlSim.cons (SSim.ret (ESim.tup (.cons (ESim.methF T.ok T.co (ESim.var 28 _ rfl (by decide) (.inl (by kernel_rfl)) (by kernel_rfl)) (fun _ _ => rfl) T.nm_decide T.tm_decide T.im_decide ((sm_decide T).up (by decide)) (.cons (ESim.var 9 _ rfl (by decide) (.inl (by kernel_rfl)) (by kernel_rfl)) .nil) rfl (by decide) (by kernel_rfl) (by kernel_rfl)) (.cons (ESim.call T.ok (by kernel_rfl) T.g_law_struck (by kernel_rfl) T.if_law_struck.keep ((sf_law_struck T).up (by decide)) (.cons (ESim.var 29 _ rfl (by decide) (.inl (by kernel_rfl)) (by kernel_rfl)) (.cons (ESim.var 9 _ rfl (by decide) (.inl (by kernel_rfl)) (by kernel_rfl)) (.cons (ESim.cNone _ _) (.cons (ESim.un (ESim.cInt _ _ _) op_neg) .nil)))) rfl) .nil)) rfl (by decide)))
    BlSim.nil) BlSim.nil)
    (BlSim.cons (SSim.assignUsed rfl (by decide) (.inl (by kernel_rfl)) (fun _ _ => rfl) (by kernel_rfl) (ISim.range1 T.ok (by kernel_rfl) T.g_range (ESim.call T.ok (by kernel_rfl) T.g_law_draw (by kernel_rfl) T.if_law_draw.keep ((sf_law_draw T).up (by decide)) (.cons (ESim.var 22 _ rfl (by decide) (.inr (by kernel_rfl)) (by kernel_rfl)) (.cons (ESim.cInt _ _ _) .nil)) rfl) rfl) (.one rfl (by decide) (.inl (by kernel_rfl))) (htl_one (by kernel_rfl)) .nil (ESim.call T.ok (by kernel_rfl) T.g_law_literal (by kernel_rfl) T.if_law_literal.keep ((sf_law_literal T).up (by decide)) (.cons (ESim.var 22 _ rfl (by decide) (.inr (by kernel_rfl)) (by kernel_rfl)) (.cons (ESim.var 23 _ rfl (by decide) (.inr (by kernel_rfl)) (by kernel_rfl)) .nil)) rfl) (fun env h => swaps_true h (by kernel_rfl)))
    (BlSim.cons (SSim.ite (TSim.cmp (ESim.var 32 _ rfl (by decide) (.inl (by kernel_rfl)) (by kernel_rfl)) (ESim.cInt _ _ _) op_eq (by kernel_rfl)) (BlSim.cons (SSim.ret (ESim.tup (.cons (ESim.methF T.ok T.co (ESim.var 28 _ rfl (by decide) (.inl (by kernel_rfl)) (by kernel_rfl)) (fun _ _ => rfl) T.nm_fail T.tm_fail T.im_fail ((sm_fail T).up (by decide)) (.cons (ESim.var 15 _ rfl (by decide) (.inl (by kernel_rfl)) (by kernel_rfl)) .nil) rfl (by decide) (by kernel_rfl) (by kernel_rfl)) (.cons (ESim.call1 T.ok (by kernel_rfl) T.g_tuple (by kernel_rfl) (keepOk_type _) op_tuple (ESim.var 15 _ rfl (by decide) (.inl (by kernel_rfl)) (by kernel_rfl)) rfl) .nil)) rfl (by decide)))
    BlSim.nil) BlSim.nil)
    (BlSim.cons (SSim.ret (ESim.tup (.cons (ESim.methF T.ok T.co (ESim.var 28 _ rfl (by decide) (.inl (by kernel_rfl)) (by kernel_rfl)) (fun _ _ => rfl) T.nm_strike T.tm_strike T.im_strike ((sm_strike T).up (by decide)) (.cons (ESim.var 9 _ rfl (by decide) (.inl (by kernel_rfl)) (by kernel_rfl)) (.cons (ESim.var 15 _ rfl (by decide) (.inl (by kernel_rfl)) (by kernel_rfl)) .nil)) rfl (by decide) (by kernel_rfl) (by kernel_rfl)) (.cons (ESim.call T.ok (by kernel_rfl) T.g_law_struck (by kernel_rfl) T.if_law_struck.keep ((sf_law_struck T).up (by decide)) (.cons (ESim.var 29 _ rfl (by decide) (.inl (by kernel_rfl)) (by kernel_rfl)) (.cons (ESim.var 9 _ rfl (by decide) (.inl (by kernel_rfl)) (by kernel_rfl)) (.cons (ESim.call1 T.ok (by kernel_rfl) T.g_tuple (by kernel_rfl) (keepOk_type _) op_tuple (ESim.var 15 _ rfl (by decide) (.inl (by kernel_rfl)) (by kernel_rfl)) rfl) (.cons (ESim.var 16 _ rfl (by decide) (.inl (by kernel_rfl)) (by kernel_rfl)) .nil)))) rfl) .nil)) rfl (by decide)))
    BlSim.nil)))))))))
noncomputable abbrev lawSt : Stmt := (stAt pw.main.body 30)
theorem bl_law {W : Wd} (T : TopOk W) : BlSim W 7 (scopeS lawSt) (bodyS lawSt) (sSeq bf_law) := show BlSim W 7 (scopeS (stAt pw.main.body 30)) (bodyS (stAt pw.main.body 30)) (sSeq bf_law) from
    (BlSim.cons (SSim.assign rfl (by decide) (.inr (by kernel_rfl)) (ESim.dict (.cons (ESim.take (ESim.var 33 _ rfl (by decide) (.inl (by kernel_rfl)) (by kernel_rfl)) (ESim.cInt _ _ _)) (.cons (ESim.cInt _ _ _) (.cons (ESim.call1 T.ok (by kernel_rfl) T.g_sum (by kernel_rfl) (keepOk_builtin _) op_sum (ESim.comp (fun _ _ => rfl) (by kernel_rfl) (ISim.val (ESim.take (ESim.var 33 _ rfl (by decide) (.inl (by kernel_rfl)) (by kernel_rfl)) (ESim.cInt _ _ _))) (.one rfl (by decide) (.inl (by kernel_rfl))) (htl_one (by kernel_rfl)) .nil (ESim.bin (ESim.call1 T.ok (by kernel_rfl) T.g_abs (by kernel_rfl) (keepOk_builtin _) op_abs (ESim.var 44 _ rfl (by decide) (.inl (by kernel_rfl)) (by kernel_rfl)) rfl) (ESim.cInt _ _ _) op_mod)) rfl) .nil))) (.cons rfl (by decide) (.cons rfl (by decide) (.cons rfl (by decide) .nil))) rfl (List.cons_ne_nil _ _) (by decide) (by decide +kernel)) (fun _ _ => rfl))
    (BlSim.cons (SSim.assignTup (.cons (ESim.newInst T.ok (by kernel_rfl) T.g_Store (by kernel_rfl) T.k_Store T.mk_Store T.nm__init__ T.tm__init__ ((sm__init__ T).up (by decide))) (.cons (ESim.bin (ESim.cInt _ _ _) (ESim.call T.ok (by kernel_rfl) T.g_law_draw (by kernel_rfl) T.if_law_draw.keep ((sf_law_draw T).up (by decide)) (.cons (ESim.var 22 _ rfl (by decide) (.inr (by kernel_rfl)) (by kernel_rfl)) (.cons (ESim.cInt _ _ _) .nil)) rfl) op_add) .nil)) rfl (by decide) (.cons rfl (by decide) (.inr (by kernel_rfl)) (.cons rfl (by decide) (.inl (by kernel_rfl)) .nil)) (by intro env h; cases env; subst h; kernel_rfl))
    (BlSim.cons (SSim.assignUsed rfl (by decide) (.inl (by kernel_rfl)) (fun _ _ => rfl) (by kernel_rfl) (ISim.range1 T.ok (by kernel_rfl) T.g_range (ESim.var 23 _ rfl (by decide) (.inl (by kernel_rfl)) (by kernel_rfl)) rfl) (.one rfl (by decide) (.inl (by kernel_rfl))) (htl_one (by kernel_rfl)) .nil (ESim.call T.ok (by kernel_rfl) T.g_law_numbers (by kernel_rfl) T.if_law_numbers.keep ((sf_law_numbers T).up (by decide)) (.cons (ESim.var 22 _ rfl (by decide) (.inr (by kernel_rfl)) (by kernel_rfl)) .nil) rfl) (fun env h => swaps_true h (by kernel_rfl)))
    (BlSim.cons (SSim.ite (TSim.cmp (ESim.comp (fun _ _ => rfl) (by kernel_rfl) (ISim.val (ESim.var 30 _ rfl (by decide) (.inl (by kernel_rfl)) (by kernel_rfl))) (.one rfl (by decide) (.inl (by kernel_rfl))) (htl_one (by kernel_rfl)) .nil (ESim.methF T.ok T.co (ESim.var 28 _ rfl (by decide) (.inr (by kernel_rfl)) (by kernel_rfl)) (fun _ _ => rfl) T.nm_new_var T.tm_new_var T.im_new_var ((sm_new_var T).up (by decide)) (.cons (ESim.call T.ok (by kernel_rfl) T.g_law_ranges (by kernel_rfl) T.if_law_ranges.keep ((sf_law_ranges T).up (by decide)) (.cons (ESim.var 24 _ rfl (by decide) (.inl (by kernel_rfl)) (by kernel_rfl)) .nil) rfl) .nil) rfl (by decide) (by kernel_rfl) (by kernel_rfl))) (ESim.listRange T.ok (by kernel_rfl) T.g_list (by kernel_rfl) T.g_range (ESim.var 23 _ rfl (by decide) (.inl (by kernel_rfl)) (by kernel_rfl)) rfl) op_ne (by kernel_rfl)) (BlSim.cons (SSim.ret (ESim.cBool _ _ _))
    BlSim.nil) BlSim.nil)
    (BlSim.cons (SSim.assign rfl (by decide) (.inl (by kernel_rfl)) (ESim.dict (.cons (ESim.var 30 _ rfl (by decide) (.inl (by kernel_rfl)) (by kernel_rfl)) (.cons (ESim.lst .nil rfl (by decide)) (.cons ESim.newList (.cons (ESim.lst .nil rfl (by decide)) .nil)))) (.cons rfl (by decide) (.cons rfl (by decide) (.cons rfl (by decide) (.cons rfl (by decide) .nil)))) rfl (List.cons_ne_nil _ _) (by decide) (by decide +kernel)) (fun _ _ => rfl))
    (BlSim.cons (SSim.forS (fun _ _ => rfl) (ISim.range1 T.ok (by kernel_rfl) T.g_range (ESim.cInt _ _ _) rfl) (.one rfl (by decide) (.inl (by kernel_rfl))) (BlSim.cons (SSim.attrSet 16 T.ok T.co (ESim.var 28 _ rfl (by decide) (.inr (by kernel_rfl)) (by kernel_rfl)) (ESim.var 31 _ rfl (by decide) (.inl (by kernel_rfl)) (by kernel_rfl)) rfl (by decide) T.a_speaker (fun _ => rfl))
    (BlSim.cons (SSim.ite (TSim.and (TSim.cmp (ESim.key 38 (ESim.var 29 _ rfl (by decide) (.inl (by kernel_rfl)) (by kernel_rfl)) rfl (by decide)) (ESim.lst .nil rfl (by decide)) op_eq (by kernel_rfl)) (TSim.not (TSim.val (ESim.call T.ok (by kernel_rfl) T.g_law_begun (by kernel_rfl) T.if_law_begun.keep ((sf_law_begun T).up (by decide)) (.cons (ESim.var 28 _ rfl (by decide) (.inr (by kernel_rfl)) (by kernel_rfl)) (.cons (ESim.var 29 _ rfl (by decide) (.inl (by kernel_rfl)) (by kernel_rfl)) .nil)) rfl) (fun _ _ => rfl)))) (BlSim.cons (SSim.ret (ESim.cBool _ _ _))
    BlSim.nil) BlSim.nil)
    (BlSim.cons (SSim.unpack (ESim.call T.ok (by kernel_rfl) T.g_law_deed (by kernel_rfl) T.if_law_deed.keep ((sf_law_deed T).up (by decide)) (.cons (ESim.var 22 _ rfl (by decide) (.inr (by kernel_rfl)) (by kernel_rfl)) (.cons (ESim.var 28 _ rfl (by decide) (.inr (by kernel_rfl)) (by kernel_rfl)) (.cons (ESim.var 29 _ rfl (by decide) (.inl (by kernel_rfl)) (by kernel_rfl)) (.cons (ESim.var 23 _ rfl (by decide) (.inl (by kernel_rfl)) (by kernel_rfl)) .nil)))) rfl) (.cons rfl (by decide) (.inl (by kernel_rfl)) (.cons rfl (by decide) (.inl (by kernel_rfl)) .nil)) (fun _ => rfl) (fun _ => rfl))
    (BlSim.cons (SSim.ite (TSim.or3 (TSim.not (TSim.val (ESim.isBool T.ok (by kernel_rfl) T.g_isinstance (by kernel_rfl) T.g_bool (ESim.var 34 _ rfl (by decide) (.inl (by kernel_rfl)) (by kernel_rfl)) rfl) (fun _ _ => rfl))) (TSim.or (TSim.cmp (ESim.var 34 _ rfl (by decide) (.inl (by kernel_rfl)) (by kernel_rfl)) (ESim.cmp (ESim.var 35 _ rfl (by decide) (.inl (by kernel_rfl)) (by kernel_rfl)) (ESim.cNone _ _) op_isNone (by kernel_rfl)) op_ne (by kernel_rfl)) (TSim.cmp (ESim.attr 40 T.ok T.co (ESim.var 28 _ rfl (by decide) (.inr (by kernel_rfl)) (by kernel_rfl)) (fun _ _ => rfl) (fun _ _ => rfl) rfl (by decide) T.a_is_failed) (ESim.var 34 _ rfl (by decide) (.inl (by kernel_rfl)) (by kernel_rfl)) op_eq (by kernel_rfl)))) (BlSim.cons (SSim.ret (ESim.cBool _ _ _))
    BlSim.nil) BlSim.nil)
    (BlSim.cons (SSim.ite (TSim.and (TSim.cmp (ESim.var 35 _ rfl (by decide) (.inl (by kernel_rfl)) (by kernel_rfl)) (ESim.cNone _ _) op_isNotNone (by kernel_rfl)) (TSim.or (TSim.cmp (ESim.attr 35 T.ok T.co (ESim.var 28 _ rfl (by decide) (.inr (by kernel_rfl)) (by kernel_rfl)) (fun _ _ => rfl) (fun _ _ => rfl) rfl (by decide) T.a_clash) (ESim.var 35 _ rfl (by decide) (.inl (by kernel_rfl)) (by kernel_rfl)) op_ne (by kernel_rfl)) (TSim.not (TSim.val (ESim.call T.ok (by kernel_rfl) T.g_law_taken_back (by kernel_rfl) T.if_law_taken_back.keep ((sf_law_taken_back T).up (by decide)) (.cons (ESim.var 28 _ rfl (by decide) (.inr (by kernel_rfl)) (by kernel_rfl)) (.cons (ESim.var 29 _ rfl (by decide) (.inl (by kernel_rfl)) (by kernel_rfl)) (.cons (ESim.cInt _ _ _) .nil))) rfl) (fun _ _ => rfl))))) (BlSim.cons (SSim.ret (ESim.cBool _ _ _))
    BlSim.nil) BlSim.nil)
    (BlSim.cons (SSim.ite (TSim.not (TSim.val (ESim.call T.ok (by kernel_rfl) T.g_law_is_seen (by kernel_rfl) T.if_law_is_seen.keep ((sf_law_is_seen T).up (by decide)) (.cons (ESim.var 28 _ rfl (by decide) (.inr (by kernel_rfl)) (by kernel_rfl)) (.cons (ESim.var 29 _ rfl (by decide) (.inl (by kernel_rfl)) (by kernel_rfl)) (.cons (ESim.var 30 _ rfl (by decide) (.inl (by kernel_rfl)) (by kernel_rfl)) .nil))) rfl) (fun _ _ => rfl))) (BlSim.cons (SSim.ret (ESim.cBool _ _ _))
    BlSim.nil) BlSim.nil)
    (BlSim.cons (SSim.ite (TSim.cmp (ESim.call T.ok (by kernel_rfl) T.g_law_draw (by kernel_rfl) T.if_law_draw.keep ((sf_law_draw T).up (by decide)) (.cons (ESim.var 22 _ rfl (by decide) (.inr (by kernel_rfl)) (by kernel_rfl)) (.cons (ESim.cInt _ _ _) .nil)) rfl) (ESim.cInt _ _ _) op_eq (by kernel_rfl)) (BlSim.cons (SSim.ite (TSim.cmp (ESim.methF T.ok T.co (ESim.var 28 _ rfl (by decide) (.inr (by kernel_rfl)) (by kernel_rfl)) (fun _ _ => rfl) T.nm_changed T.tm_changed T.im_changed ((sm_changed T).up (by decide)) .nil rfl (by decide) (by kernel_rfl) (by kernel_rfl)) (ESim.key 39 (ESim.var 29 _ rfl (by decide) (.inl (by kernel_rfl)) (by kernel_rfl)) rfl (by decide)) op_ne (by kernel_rfl)) (BlSim.cons (SSim.ret (ESim.cBool _ _ _))
    BlSim.nil) BlSim.nil)
    (BlSim.cons (SSim.keySet 39 (ESim.var 29 _ rfl (by decide) (.inl (by kernel_rfl)) (by kernel_rfl)) (ESim.lst .nil rfl (by decide)) rfl (by decide) (fun _ => rfl))
    BlSim.nil)) BlSim.nil)
    BlSim.nil))))))))
    (BlSim.cons (SSim.ite (TSim.and (TSim.cmp (ESim.key 38 (ESim.var 29 _ rfl (by decide) (.inl (by kernel_rfl)) (by kernel_rfl)) rfl (by decide)) (ESim.lst .nil rfl (by decide)) op_ne (by kernel_rfl)) (TSim.not (TSim.val (ESim.call T.ok (by kernel_rfl) T.g_law_taken_back (by kernel_rfl) T.if_law_taken_back.keep ((sf_law_taken_back T).up (by decide)) (.cons (ESim.var 28 _ rfl (by decide) (.inr (by kernel_rfl)) (by kernel_rfl)) (.cons (ESim.var 29 _ rfl (by decide) (.inl (by kernel_rfl)) (by kernel_rfl)) (.cons (ESim.call1 T.ok (by kernel_rfl) T.g_len (by kernel_rfl) (keepOk_builtin _) op_len (ESim.key 38 (ESim.var 29 _ rfl (by decide) (.inl (by kernel_rfl)) (by kernel_rfl)) rfl (by decide)) rfl) .nil))) rfl) (fun _ _ => rfl)))) (BlSim.cons (SSim.ret (ESim.cBool _ _ _))
    BlSim.nil) BlSim.nil)
    (BlSim.cons (SSim.ret (ESim.and1 (ESim.call T.ok (by kernel_rfl) T.g_law_is_seen (by kernel_rfl) T.if_law_is_seen.keep ((sf_law_is_seen T).up (by decide)) (.cons (ESim.var 28 _ rfl (by decide) (.inr (by kernel_rfl)) (by kernel_rfl)) (.cons (ESim.var 29 _ rfl (by decide) (.inl (by kernel_rfl)) (by kernel_rfl)) (.cons (ESim.var 30 _ rfl (by decide) (.inl (by kernel_rfl)) (by kernel_rfl)) .nil))) rfl) (ESim.bool1 (ESim.cmp (ESim.methF T.ok T.co (ESim.var 28 _ rfl (by decide) (.inr (by kernel_rfl)) (by kernel_rfl)) (fun _ _ => rfl) T.nm_changed T.tm_changed T.im_changed ((sm_changed T).up (by decide)) .nil rfl (by decide) (by kernel_rfl) (by kernel_rfl)) (ESim.key 39 (ESim.var 29 _ rfl (by decide) (.inl (by kernel_rfl)) (by kernel_rfl)) rfl (by decide)) op_eq (by kernel_rfl)))))
    BlSim.nil))))))))
end Mine
end
section
set_option maxRecDepth 100000
namespace Mine
open PySem
theorem well_ints {P : Params} {h : Heap} : ∀ {vs : List Value} {ns : List Int}, PySem.W.WellAll P h vs (PySem.W.ofPys (ns.map .int)) → PyProof.Rows.IntsAre vs ns
  | [], [], _ => .nil
  | [], _ :: _, x => by cases x
  | _ :: _, [], x => by cases x
  | v :: vs, n :: ns, x => by
    cases x with
    | cons a b =>
      cases a
      exact .cons _ _ (well_ints b)
theorem well_list {P : Params} {h : Heap} {a : Addr} {ns : List Int} (x : PySem.W.Well P h (.ref a) (PySem.W.ofPy (.list (ns.map .int)))) : ∃ vs, h.get? a = some { cls := .type "list", data := .seq vs.toArray } ∧ PyProof.Rows.IntsAre vs ns := by
  cases x with
  | list h1 h2 => exact ⟨_, h1, well_ints h2⟩
theorem cellsAre_mem {cm : Str → Option Value} {cs : List (Str × Addr)} {cells : List (Addr × Obj)} (x : PyProof.Rows.CellsAre cm cs cells) {n : Str} {c : Addr} (h : (n, c) ∈ cs) : ∃ o, (c, o) ∈ cells ∧ o.data = .cell (cm n) := by
  induction x with
  | nil => cases h
  | @cons n' c' o cs cells hd _ ih =>
    rcases List.mem_cons.mp h with e | h
    · cases e; exact ⟨o, List.mem_cons_self, hd⟩
    · obtain ⟨o', h1, h2⟩ := ih h
      exact ⟨o', List.mem_cons_of_mem _ h1, h2⟩
theorem law_run {W : Wd} (T : TopOk W) {s₁ : Shared} (h0 : W.h₀ = s₁.heap) {env : Env} (hs : env.scope = scopeS lawSt) (hg : env.globals = mainGlobals) (hb : env.builtins = builtinsNs) (hL : env.locals = s₁.heap.objs.size) (hc : env.cells = cellsFrom (s₁.heap.objs.size + 1) (scopeS lawSt).names [])
    {h₁ : Heap} {tk₁ : Nat} {P : Params} {a : Addr} {ns : List Int} (w1 : PySem.W.Well P s₁.heap (.ref a) (PySem.W.ofPy (.list (ns.map .int)))) (F : PyProof.Rows.Fr s₁.heap env.locals h₁ (bindL env.kindOf [(nm 33, .ref a)] fun _ => none)) {cells : List (Addr × Obj)}
    (X0 : PyProof.Rows.CellsAre (bindC env.kindOf [(nm 33, .ref a)] fun _ => none) env.cells cells) (N0 : ∀ p ∈ cells, h₁.get? p.1 = some p.2) {A : Around} (room : Room A 7) {b : Bool} {st' : St} (hp : f_law [.d (.list (ns.map .int))] [] = some (.d (.bool b), st')) {Q : Flow → Shared → Prop} {E : Value → Shared → Prop}
    (hQ : ∀ s' : Shared, same { s₁ with heap := h₁, toks := tk₁ } s' → (∀ b o, s₁.heap.get? b = some o → s'.heap.get? b = some o) → Q (.ret (.bool b)) s') : wpAny (model W.prog W.w) A (execs (bodyS lawSt) env) Q E { s₁ with heap := h₁, toks := tk₁ } := by
  obtain ⟨vs, ho, hI⟩ := well_list w1
  have i0 : W.Inv s₁.heap ⟨[], []⟩ [] := ⟨fun a o e => by rw [h0] at e; exact e, (by simp), (by simp), rfl, (by simp), fun i a o e => by simp at e⟩
  obtain ⟨i1, x1⟩ := i0.grow F.keep
  have rl : RepVs s₁.heap ⟨[], []⟩ [Value.ref a] [PV.d (.list (ns.map .int))] := .cons (.list ho (by simp [Al.all]) (ints_reps hI)) .nil
  have hk : (scopeS lawSt).kind = .function := by kernel_rfl
  have ok0 := cellsFrom_ok (scopeS lawSt).names (s₁.heap.push { cls := .type "frame", data := .dict #[] }) (s₁.heap.objs.size + 1) [] ⟨fun _ _ hm => (nomatch hm), List.Pairwise.nil⟩ (by rw [Heap.size_push]; exact Nat.le_refl _)
  rw [Heap.size_push] at ok0
  have hcn : ((cellsFrom 0 (scopeS lawSt).names []).map (·.1)).Nodup := by
    have : ((cellsFrom 0 (scopeS lawSt).names []).map (·.1)) = [nm 28, nm 22] ∨ ((cellsFrom 0 (scopeS lawSt).names []).map (·.1)) = [nm 22, nm 28] := by
      first | exact .inl (by kernel_rfl) | exact .inr (by kernel_rfl)
    rcases this with e | e <;> rw [e] <;> decide +kernel
  have X : InCallC s₁ env.locals (bindL env.kindOf (([33].map nm).zip [Value.ref a]) fun _ => none) env.cells (bindC env.kindOf (([33].map nm).zip [Value.ref a]) fun _ => none) { s₁ with heap := h₁, toks := tk₁ } :=
    ⟨⟨⟨_, _, rfl⟩, F.ns, F.keep, F.above⟩, fun n c hl => by
      obtain ⟨o, h1, h2⟩ := cellsAre_mem X0 (mem_of_lookup hl)
      exact ⟨o, N0 _ h1, h2⟩, by rw [hc]; exact ok0.apart, fun n c hm => by rw [hc] at hm; rw [hL]; exact (ok0.empty n c hm).2⟩
  have Fr0 : FrOK W.h₀ h₁ ⟨[], []⟩ env (upd (fun _ => none) 33 (.d (.list (ns.map .int)))) :=
    FrOK.start (W := W) (s₁ := { s₁ with heap := h₁, toks := tk₁ }) (ps := [33]) i0 hs hk hg hb hL hc (by decide) (by decide) hcn rl rfl X
  unfold f_law fFun at hp
  obtain ⟨vs0, e1, e2⟩ := bind_eq hp
  cases e1
  obtain ⟨⟨fl, vs2, st2⟩, e3, e4⟩ := map_eq e2
  refine bl_law T A E env ⟨[], []⟩ { s₁ with heap := h₁, toks := tk₁ } _ [] fl vs2 st2 Q room hs Fr0 i1 e3 fun s2 α2 fr sm2 x2 K2 i2 fo => ?_
  cases fl with
  | next => cases e4
  | ret pv =>
    cases e4
    obtain ⟨u, rfl, ru⟩ := flow_ret fo
    cases ru
    exact hQ s2 sm2 fun b o e => i2.base b o (by rw [h0]; exact e)
end Mine
end
section
set_option maxRecDepth 1000000
namespace Mine
open PySem PySem.W PyProof.Rows
noncomputable def kEnt (P : Params) (x : String) (t : Nat) (v : Value) : DictEntry := { hash := PyData.keyHash P (Str.ofString x), key := .str (Str.ofString x) t, val := v }
noncomputable def nameS : Stmt → Str
  | .FunctionDef x .. => x
  | _ => default
noncomputable def paramsS : Stmt → Arguments
  | .FunctionDef _ p .. => p
  | _ => default
noncomputable def kFun (_nm q : String) (c : Nat) (s : Stmt) (mod : String) (mt : Nat) : Addr × Obj := (c + 1, { cls := .type "function", data := .func { name := nameS s, qualname := Str.ofString q, params := paramsS s, body := .stmts (bodyS s), scope := scopeS s, globals := 3, closure := [], defaults := .none, kwdefaults := .none, pyModule := .str (Str.ofString mod) mt, code := .ref c } })
noncomputable def kFile (t : Nat) : Value := .str (Str.ofString "/claim/cut.py") t
noncomputable def kInt (n t : Nat) : Value := .int (n : Int) t
noncomputable def kCode (nm q : String) (c t l a : Nat) (full : Bool) (loc : Nat) : Addr × Obj := (c, { cls := .type "code", data := .fields (match full with
  | true => #[.str (Str.ofString nm) t, .str (Str.ofString q) (t + 1), kFile (t + 2), kInt l 0, kInt a 0, kInt 0 0, kInt 0 0, kInt 3 0, .ref (c - 5), .bool true, kInt 181 0, .ref (c - 4), .none, .ref (c - 3), .ref (c - 2), .ref (c - 1), kInt (t + 3 + loc) 0, kInt l 0, kFile (t + 4 + loc)]
  | false => #[.str (Str.ofString nm) t, .str (Str.ofString q) (t + 1), kFile (t + 2), kInt l 0, kInt a 0, kInt 0 0, kInt 0 0, kInt 3 0, .ref (c - 3), .bool true, kInt 181 0, .ref (c - 2), .none, .none, .none, .ref (c - 1), kInt (t + 3 + loc) 0, kInt l 0, kFile (t + 4 + loc)]) })
noncomputable def theK (P : Params) : PySem.W.Frag := [
  (3, { cls := Value.type "dict", data := Data.dict #[kEnt P "__name__" 165 (Value.str (Str.ofString "law_no0305_01") 487), kEnt P "__doc__" 166 (Value.none), kEnt P "__package__" 167 (Value.none), kEnt P "__loader__" 168 (Value.builtin "__main__.__loader__#opaque"), kEnt P "__spec__" 169 (Value.none), kEnt P "__annotations__" 170 (Value.ref 6), kEnt P "__builtins__" 171 (Value.ref 4), kEnt P "__file__" 173 (Value.str (Str.ofString "/claim/cut.py") 172), kEnt P "__cached__" 174 (Value.none), kEnt P "least" 195 (Value.ref 21), kEnt P "greatest" 202 (Value.ref 28), kEnt P "size" 208 (Value.ref 33), kEnt P "size_domains" 209 (Value.ref 33), kEnt P "next_from" 219 (Value.ref 40), kEnt P "has" 227 (Value.ref 47), kEnt P "has_domains" 228 (Value.ref 47), kEnt P "up_to" 234 (Value.ref 52), kEnt P "from_on" 240 (Value.ref 57), kEnt P "without" 248 (Value.ref 64), kEnt P "meet" 261 (Value.ref 71), kEnt P "negation" 271 (Value.ref 78), kEnt P "struck" 281 (Value.ref 85), kEnt P "said_of" 290 (Value.ref 92), kEnt P "Store" 486 (Value.ref 242), kEnt P "_law_draw" 497 (Value.ref 253), kEnt P "_law_ranges" 506 (Value.ref 260), kEnt P "_law_keeps" 515 (Value.ref 267), kEnt P "_law_against" 525 (Value.ref 274), kEnt P "_law_literal" 535 (Value.ref 281), kEnt P "_law_numbers" 541 (Value.ref 286), kEnt P "_law_said" 547 (Value.ref 291), kEnt P "_law_struck" 553 (Value.ref 296), kEnt P "_law_is_seen" 559 (Value.ref 301), kEnt P "_law_begun" 567 (Value.ref 308), kEnt P "_law_taken_back" 577 (Value.ref 315), kEnt P "_law_deed" 583 (Value.ref 320), kEnt P "law" 589 (Value.ref 325)] 37 }),
  (241, { cls := Value.type "dict", data := Data.dict #[kEnt P "__module__" 300 (Value.str (Str.ofString "fdsolve.store") 291), kEnt P "__firstlineno__" 304 (Value.int 54 303), kEnt P "__init__" 311 (Value.ref 106), kEnt P "new_var" 319 (Value.ref 113), kEnt P "size" 326 (Value.ref 120), kEnt P "dom" 334 (Value.ref 127), kEnt P "initial" 342 (Value.ref 134), kEnt P "low" 350 (Value.ref 141), kEnt P "high" 358 (Value.ref 148), kEnt P "has" 367 (Value.ref 155), kEnt P "is_fixed" 376 (Value.ref 162), kEnt P "value" 384 (Value.ref 169), kEnt P "width" 392 (Value.ref 176), kEnt P "holds" 400 (Value.ref 183), kEnt P "enter" 413 (Value.ref 190), kEnt P "strike" 422 (Value.ref 197), kEnt P "decide" 430 (Value.ref 204), kEnt P "fail" 438 (Value.ref 211), kEnt P "push" 445 (Value.ref 218), kEnt P "pop" 455 (Value.ref 225), kEnt P "depth" 462 (Value.ref 232), kEnt P "changed" 470 (Value.ref 239), kEnt P "__static_attributes__" 479 (Value.ref 240), kEnt P "__dict__" 481 (Value.ref 243), kEnt P "__weakref__" 483 (Value.ref 244), kEnt P "__doc__" 484 (Value.none)] 4 }),
  (242, { cls := Value.type "type", data := Data.cls { name := Str.ofString "Store", bases := [Value.type "object"], mro := [Value.ref 242, Value.type "object"], ns := 241, qualname := Str.ofString "Store" }, slots := #[none, none, some (Value.str (Str.ofString "Store") 293), some (Value.str (Str.ofString "Store") 301), some (Value.builtin "object.__new__"), some (Value.bool true)] }),
  (243, { cls := Value.type "getset_descriptor", data := Data.fields #[Value.str (Str.ofString "__dict__") 480, Value.ref 242, Value.builtin "function.__dict__", Value.builtin "function.__dict__#set"] }),
  (244, { cls := Value.type "getset_descriptor", data := Data.fields #[Value.str (Str.ofString "__weakref__") 482, Value.ref 242, Value.builtin "ExceptionGroup.__weakref__", Value.none] }),
  kCode "least" "least" 20 189 2 1 true 1, kFun "least" "least" 20 (stAt pw.main.body 1) "fdsolve.domains" 187,
  kCode "greatest" "greatest" 27 196 4 1 true 1, kFun "greatest" "greatest" 27 (stAt pw.main.body 2) "fdsolve.domains" 187,
  kCode "size" "size" 32 203 6 1 false 0, kFun "size" "size" 32 (stAt pw.main.body 3) "fdsolve.domains" 187,
  kCode "next_from" "next_from" 39 210 9 2 true 4, kFun "next_from" "next_from" 39 (stAt pw.main.body 5) "fdsolve.domains" 187,
  kCode "has" "has" 46 220 14 2 true 2, kFun "has" "has" 46 (stAt pw.main.body 6) "fdsolve.domains" 187,
  kCode "up_to" "up_to" 51 229 17 2 false 0, kFun "up_to" "up_to" 51 (stAt pw.main.body 8) "fdsolve.domains" 187,
  kCode "from_on" "from_on" 56 235 19 2 false 0, kFun "from_on" "from_on" 56 (stAt pw.main.body 9) "fdsolve.domains" 187,
  kCode "without" "without" 63 241 21 2 true 2, kFun "without" "without" 63 (stAt pw.main.body 10) "fdsolve.domains" 187,
  kCode "meet" "meet" 70 249 23 2 true 7, kFun "meet" "meet" 70 (stAt pw.main.body 11) "fdsolve.domains" 187,
  kCode "negation" "negation" 77 262 34 1 true 4, kFun "negation" "negation" 77 (stAt pw.main.body 12) "fdsolve.domains" 187,
  kCode "struck" "struck" 84 272 41 2 true 4, kFun "struck" "struck" 84 (stAt pw.main.body 13) "fdsolve.domains" 187,
  kCode "said_of" "said_of" 91 282 48 2 true 3, kFun "said_of" "said_of" 91 (stAt pw.main.body 14) "fdsolve.domains" 187,
  kCode "__init__" "Store.__init__" 105 305 56 1 true 1, kFun "__init__" "Store.__init__" 105 (stAt (bodyS (stAt pw.main.body 16)) 0) "fdsolve.store" 291,
  kCode "new_var" "Store.new_var" 112 312 66 2 true 2, kFun "new_var" "Store.new_var" 112 (stAt (bodyS (stAt pw.main.body 16)) 1) "fdsolve.store" 291,
  kCode "size" "Store.size" 119 320 73 1 true 1, kFun "size" "Store.size" 119 (stAt (bodyS (stAt pw.main.body 16)) 2) "fdsolve.store" 291,
  kCode "dom" "Store.dom" 126 327 76 2 true 2, kFun "dom" "Store.dom" 126 (stAt (bodyS (stAt pw.main.body 16)) 3) "fdsolve.store" 291,
  kCode "initial" "Store.initial" 133 335 79 2 true 2, kFun "initial" "Store.initial" 133 (stAt (bodyS (stAt pw.main.body 16)) 4) "fdsolve.store" 291,
  kCode "low" "Store.low" 140 343 82 2 true 2, kFun "low" "Store.low" 140 (stAt (bodyS (stAt pw.main.body 16)) 5) "fdsolve.store" 291,
  kCode "high" "Store.high" 147 351 85 2 true 2, kFun "high" "Store.high" 147 (stAt (bodyS (stAt pw.main.body 16)) 6) "fdsolve.store" 291,
  kCode "has" "Store.has" 154 359 88 3 true 3, kFun "has" "Store.has" 154 (stAt (bodyS (stAt pw.main.body 16)) 7) "fdsolve.store" 291,
  kCode "is_fixed" "Store.is_fixed" 161 368 91 2 true 3, kFun "is_fixed" "Store.is_fixed" 161 (stAt (bodyS (stAt pw.main.body 16)) 8) "fdsolve.store" 291,
  kCode "value" "Store.value" 168 377 95 2 true 2, kFun "value" "Store.value" 168 (stAt (bodyS (stAt pw.main.body 16)) 9) "fdsolve.store" 291,
  kCode "width" "Store.width" 175 385 98 2 true 2, kFun "width" "Store.width" 175 (stAt (bodyS (stAt pw.main.body 16)) 10) "fdsolve.store" 291,
  kCode "holds" "Store.holds" 182 393 101 2 true 2, kFun "holds" "Store.holds" 182 (stAt (bodyS (stAt pw.main.body 16)) 11) "fdsolve.store" 291,
  kCode "enter" "Store.enter" 189 401 104 4 true 7, kFun "enter" "Store.enter" 189 (stAt (bodyS (stAt pw.main.body 16)) 12) "fdsolve.store" 291,
  kCode "strike" "Store.strike" 196 414 117 3 true 3, kFun "strike" "Store.strike" 196 (stAt (bodyS (stAt pw.main.body 16)) 13) "fdsolve.store" 291,
  kCode "decide" "Store.decide" 203 423 120 2 true 2, kFun "decide" "Store.decide" 203 (stAt (bodyS (stAt pw.main.body 16)) 14) "fdsolve.store" 291,
  kCode "fail" "Store.fail" 210 431 123 2 true 2, kFun "fail" "Store.fail" 210 (stAt (bodyS (stAt pw.main.body 16)) 15) "fdsolve.store" 291,
  kCode "push" "Store.push" 217 439 128 1 true 1, kFun "push" "Store.push" 217 (stAt (bodyS (stAt pw.main.body 16)) 16) "fdsolve.store" 291,
  kCode "pop" "Store.pop" 224 446 131 2 true 4, kFun "pop" "Store.pop" 224 (stAt (bodyS (stAt pw.main.body 16)) 17) "fdsolve.store" 291,
  kCode "depth" "Store.depth" 231 456 143 1 true 1, kFun "depth" "Store.depth" 231 (stAt (bodyS (stAt pw.main.body 16)) 18) "fdsolve.store" 291,
  kCode "changed" "Store.changed" 238 463 146 1 true 2, kFun "changed" "Store.changed" 238 (stAt (bodyS (stAt pw.main.body 16)) 19) "fdsolve.store" 291,
  kCode "_law_draw" "_law_draw" 252 489 151 2 true 3, kFun "_law_draw" "_law_draw" 252 (stAt pw.main.body 18) "law_no0305_01" 487,
  kCode "_law_ranges" "_law_ranges" 259 498 157 1 true 3, kFun "_law_ranges" "_law_ranges" 259 (stAt pw.main.body 19) "law_no0305_01" 487,
  kCode "_law_keeps" "_law_keeps" 266 507 165 3 true 3, kFun "_law_keeps" "_law_keeps" 266 (stAt pw.main.body 20) "law_no0305_01" 487,
  kCode "_law_against" "_law_against" 273 516 169 1 true 4, kFun "_law_against" "_law_against" 273 (stAt pw.main.body 21) "law_no0305_01" 487,
  kCode "_law_literal" "_law_literal" 280 526 174 2 true 4, kFun "_law_literal" "_law_literal" 280 (stAt pw.main.body 22) "law_no0305_01" 487,
  kCode "_law_numbers" "_law_numbers" 285 536 177 1 false 0, kFun "_law_numbers" "_law_numbers" 285 (stAt pw.main.body 23) "law_no0305_01" 487,
  kCode "_law_said" "_law_said" 290 542 182 2 false 0, kFun "_law_said" "_law_said" 290 (stAt pw.main.body 24) "law_no0305_01" 487,
  kCode "_law_struck" "_law_struck" 295 548 187 4 false 0, kFun "_law_struck" "_law_struck" 295 (stAt pw.main.body 25) "law_no0305_01" 487,
  kCode "_law_is_seen" "_law_is_seen" 300 554 198 3 false 0, kFun "_law_is_seen" "_law_is_seen" 300 (stAt pw.main.body 26) "law_no0305_01" 487,
  kCode "_law_begun" "_law_begun" 307 560 213 2 true 2, kFun "_law_begun" "_law_begun" 307 (stAt pw.main.body 27) "law_no0305_01" 487,
  kCode "_law_taken_back" "_law_taken_back" 314 568 217 3 true 4, kFun "_law_taken_back" "_law_taken_back" 314 (stAt pw.main.body 28) "law_no0305_01" 487,
  kCode "_law_deed" "_law_deed" 319 578 223 4 false 0, kFun "_law_deed" "_law_deed" 319 (stAt pw.main.body 29) "law_no0305_01" 487,
  kCode "law" "law" 324 584 236 1 false 0, kFun "law" "law" 324 (stAt pw.main.body 30) "law_no0305_01" 487]
noncomputable def kAs : List Addr := [3, 241, 242, 243, 244, 20, 21, 27, 28, 32, 33, 39, 40, 46, 47, 51, 52, 56, 57, 63, 64, 70, 71, 77, 78, 84, 85, 91, 92, 105, 106, 112, 113, 119, 120, 126, 127, 133, 134, 140, 141, 147, 148, 154, 155, 161, 162, 168, 169, 175, 176, 182, 183, 189, 190, 196, 197, 203, 204, 210, 211, 217, 218, 224, 225, 231, 232, 238, 239, 252, 253, 259, 260, 266, 267, 273, 274, 280, 281, 285, 286, 290, 291, 295, 296, 300, 301, 307, 308, 314, 315, 319, 320, 324, 325]
theorem kAs_eq (P : Params) : kAs = (theK P).map (·.1) := by kernel_rfl
noncomputable def qv : Program := view pw [1, 2, 3, 4, 5, 6, 7, 8, 9, 10, 11, 12, 13, 14, 16, 18, 19, 20, 21, 22, 23, 24, 25, 26, 27, 28, 29, 30]
noncomputable def qLoose : List Str := [Str.ofString "size_domains", Str.ofString "has_domains"]
abbrev lawL : OpenLaw := PySem.Challenge.rw_no0305_01
noncomputable abbrev lawH : Hook := kHook theK kAs kAs_eq
noncomputable def kTup : Obj := { cls := .type "tuple", data := .seq #[] }
noncomputable def kEmp : Obj := { cls := .none, data := .fields #[] }
noncomputable def kStrs : List String → Nat → List Value
  | [], _ => []
  | x :: r, t => .str (Str.ofString x) t :: kStrs r (t + 1)
noncomputable def kRec (q : String) (s : Stmt) : Obj := { cls := .none, data := .func { name := nameS s, qualname := Str.ofString q, params := paramsS s, body := .stmts (bodyS s), scope := scopeS s, globals := 0, closure := [], defaults := .none, kwdefaults := .none } }
noncomputable def kGroup (nm q : String) (c t l a : Nat) (full : Bool) (locs : List String) (s : Stmt) (mod : String) (mt : Nat) : List Obj := match full with
  | true => [kTup, kEmp, { cls := .type "tuple", data := .seq ⟨kStrs locs (t + 3)⟩ }, kTup, kRec q s, (kCode nm q c t l a true locs.length).2, (kFun nm q c s mod mt).2]
  | false => [kTup, kEmp, kRec q s, (kCode nm q c t l a false 0).2, (kFun nm q c s mod mt).2]
noncomputable def kCons (v : Value) : List (Nat × Nat) → List Value
  | [] => []
  | p :: r => .int p.1 0 :: v :: .ref p.2 :: kCons v r
noncomputable def kConsts (v : Value) (l : List (Nat × Nat)) : Obj := { cls := .none, data := .fields ⟨kCons v l⟩ }
noncomputable def mainEnts (P : Params) : List DictEntry := [kEnt P "__doc__" 166 (Value.none), kEnt P "__package__" 167 (Value.none), kEnt P "__loader__" 168 (Value.builtin "__main__.__loader__#opaque"), kEnt P "__spec__" 169 (Value.none), kEnt P "__annotations__" 170 (Value.ref 6), kEnt P "__builtins__" 171 (Value.ref 4), kEnt P "__file__" 173 (Value.str (Str.ofString "/claim/cut.py") 172), kEnt P "__cached__" 174 (Value.none), kEnt P "least" 195 (Value.ref 21), kEnt P "greatest" 202 (Value.ref 28), kEnt P "size" 208 (Value.ref 33), kEnt P "size_domains" 209 (Value.ref 33), kEnt P "next_from" 219 (Value.ref 40), kEnt P "has" 227 (Value.ref 47), kEnt P "has_domains" 228 (Value.ref 47), kEnt P "up_to" 234 (Value.ref 52), kEnt P "from_on" 240 (Value.ref 57), kEnt P "without" 248 (Value.ref 64), kEnt P "meet" 261 (Value.ref 71), kEnt P "negation" 271 (Value.ref 78), kEnt P "struck" 281 (Value.ref 85), kEnt P "said_of" 290 (Value.ref 92), kEnt P "Store" 486 (Value.ref 242), kEnt P "_law_draw" 497 (Value.ref 253), kEnt P "_law_ranges" 506 (Value.ref 260), kEnt P "_law_keeps" 515 (Value.ref 267), kEnt P "_law_against" 525 (Value.ref 274), kEnt P "_law_literal" 535 (Value.ref 281), kEnt P "_law_numbers" 541 (Value.ref 286), kEnt P "_law_said" 547 (Value.ref 291), kEnt P "_law_struck" 553 (Value.ref 296), kEnt P "_law_is_seen" 559 (Value.ref 301), kEnt P "_law_begun" 567 (Value.ref 308), kEnt P "_law_taken_back" 577 (Value.ref 315), kEnt P "_law_deed" 583 (Value.ref 320), kEnt P "law" 589 (Value.ref 325)]
noncomputable def mainD (P : Params) (x : String) (t n ep : Nat) : Obj := { cls := .type "dict", data := .dict ⟨kEnt P "__name__" 165 (.str (Str.ofString x) t) :: (mainEnts P).take n⟩ ep }
noncomputable def mainC : List (Nat × Nat) := [(2, 20), (4, 27), (6, 32), (9, 39), (14, 46), (17, 51), (19, 56), (21, 63), (23, 70), (34, 77), (41, 84), (48, 91), (54, 98), (151, 252), (157, 259), (165, 266), (169, 273), (174, 280), (177, 285), (182, 290), (187, 295), (198, 300), (213, 307), (217, 314), (223, 319), (236, 324)]
noncomputable def hPre (P : Params) (d3 o12 : Obj) : List Obj := [PySem.W.boot_o_0 P, PySem.W.boot_o_1 P, PySem.W.boot_o_2 P, d3, PySem.W.boot_o_4 P, PySem.W.boot_o_5 P, PySem.W.boot_o_6 P, PySem.W.boot_o_7 P, PySem.W.boot_o_8 P, PySem.W.boot_o_9 P, PySem.W.boot_o_10 P, { cls := Value.type "tuple", data := Data.seq #[] }, o12, { cls := Value.type "code", data := Data.fields #[Value.str (Str.ofString "<module>") 182, Value.str (Str.ofString "<module>") 183, Value.str (Str.ofString "/claim/cut.py") 184, Value.int 1 0, Value.int 0 0, Value.int 0 0, Value.int 0 0, Value.int 0 0, Value.ref 11, Value.bool false, Value.int 181 0, Value.ref 12, Value.none, Value.none, Value.none, Value.none, Value.int 185 0, Value.int 1 0, Value.str (Str.ofString "/claim/cut.py") 186] }, { cls := Value.type "frame", slots := #[some (Value.ref 13), some (Value.ref 3), some (Value.ref 3), none, some (Value.str (Str.ofString "__main__") 164), none, some (Value.ref 0)] }]
noncomputable def hA (P : Params) : List Obj :=
  kGroup "least" "least" 20 189 2 1 true ["d"] (stAt pw.main.body 1) "fdsolve.domains" 187 ++
  (kGroup "greatest" "greatest" 27 196 4 1 true ["d"] (stAt pw.main.body 2) "fdsolve.domains" 187 ++
  (kGroup "size" "size" 32 203 6 1 false [] (stAt pw.main.body 3) "fdsolve.domains" 187 ++
  (kGroup "next_from" "next_from" 39 210 9 2 true ["d", "v", "low", "high"] (stAt pw.main.body 5) "fdsolve.domains" 187 ++
  (kGroup "has" "has" 46 220 14 2 true ["d", "v"] (stAt pw.main.body 6) "fdsolve.domains" 187 ++
  (kGroup "up_to" "up_to" 51 229 17 2 false [] (stAt pw.main.body 8) "fdsolve.domains" 187 ++
  (kGroup "from_on" "from_on" 56 235 19 2 false [] (stAt pw.main.body 9) "fdsolve.domains" 187 ++
  (kGroup "without" "without" 63 241 21 2 true ["d", "v"] (stAt pw.main.body 10) "fdsolve.domains" 187 ++
  (kGroup "meet" "meet" 70 249 23 2 true ["d", "e", "found", "i", "j", "low", "high"] (stAt pw.main.body 11) "fdsolve.domains" 187 ++
  (kGroup "negation" "negation" 77 262 34 1 true ["literal", "x", "sign", "k"] (stAt pw.main.body 12) "fdsolve.domains" 187 ++
  (kGroup "struck" "struck" 84 272 41 2 true ["literal", "d", "sign", "k"] (stAt pw.main.body 13) "fdsolve.domains" 187 ++
  (kGroup "said_of" "said_of" 91 282 48 2 true ["literal", "d", "kept"] (stAt pw.main.body 14) "fdsolve.domains" 187)))))))))))
noncomputable def hC (P : Params) : List Obj :=
  [{ cls := Value.type "tuple", data := Data.seq #[] }, { cls := Value.type "builtin_function_or_method", data := Data.fields #[Value.builtin "type.__prepare__", Value.type "type"] }, { cls := Value.type "dict", data := Data.dict #[kEnt P "__module__" 300 (Value.str (Str.ofString "fdsolve.store") 291), kEnt P "__qualname__" 302 (Value.str (Str.ofString "Store") 301), kEnt P "__firstlineno__" 304 (Value.int 54 303), kEnt P "__init__" 311 (Value.ref 106), kEnt P "new_var" 319 (Value.ref 113), kEnt P "size" 326 (Value.ref 120), kEnt P "dom" 334 (Value.ref 127), kEnt P "initial" 342 (Value.ref 134), kEnt P "low" 350 (Value.ref 141), kEnt P "high" 358 (Value.ref 148), kEnt P "has" 367 (Value.ref 155), kEnt P "is_fixed" 376 (Value.ref 162), kEnt P "value" 384 (Value.ref 169), kEnt P "width" 392 (Value.ref 176), kEnt P "holds" 400 (Value.ref 183), kEnt P "enter" 413 (Value.ref 190), kEnt P "strike" 422 (Value.ref 197), kEnt P "decide" 430 (Value.ref 204), kEnt P "fail" 438 (Value.ref 211), kEnt P "push" 445 (Value.ref 218), kEnt P "pop" 455 (Value.ref 225), kEnt P "depth" 462 (Value.ref 232), kEnt P "changed" 470 (Value.ref 239), kEnt P "__static_attributes__" 479 (Value.ref 240)] 24 }, { cls := Value.type "tuple", data := Data.seq #[] }, kConsts (Value.int 4 0) [(56, 105), (66, 112), (73, 119), (76, 126), (79, 133), (82, 140), (85, 147), (88, 154), (91, 161), (95, 168), (98, 175), (101, 182), (104, 189), (117, 196), (120, 203), (123, 210), (128, 217), (131, 224), (143, 231), (146, 238)], { cls := Value.type "code", data := Data.fields #[Value.str (Str.ofString "Store") 295, Value.str (Str.ofString "Store") 296, Value.str (Str.ofString "/claim/cut.py") 297, Value.int 54 0, Value.int 0 0, Value.int 0 0, Value.int 0 0, Value.int 0 0, Value.ref 96, Value.bool false, Value.int 181 0, Value.ref 97, Value.none, Value.none, Value.none, Value.none, Value.int 298 0, Value.int 54 0, Value.str (Str.ofString "/claim/cut.py") 299] }, { cls := Value.type "frame", slots := #[some (Value.ref 98), some (Value.ref 3), some (Value.ref 95), none, some (Value.str (Str.ofString "fdsolve.store") 291), none, some (Value.ref 0)] }] ++
  (kGroup "__init__" "Store.__init__" 105 305 56 1 true ["self"] (stAt (bodyS (stAt pw.main.body 16)) 0) "fdsolve.store" 291 ++
  (kGroup "new_var" "Store.new_var" 112 312 66 2 true ["self", "domain"] (stAt (bodyS (stAt pw.main.body 16)) 1) "fdsolve.store" 291 ++
  (kGroup "size" "Store.size" 119 320 73 1 true ["self"] (stAt (bodyS (stAt pw.main.body 16)) 2) "fdsolve.store" 291 ++
  (kGroup "dom" "Store.dom" 126 327 76 2 true ["self", "x"] (stAt (bodyS (stAt pw.main.body 16)) 3) "fdsolve.store" 291 ++
  (kGroup "initial" "Store.initial" 133 335 79 2 true ["self", "x"] (stAt (bodyS (stAt pw.main.body 16)) 4) "fdsolve.store" 291 ++
  (kGroup "low" "Store.low" 140 343 82 2 true ["self", "x"] (stAt (bodyS (stAt pw.main.body 16)) 5) "fdsolve.store" 291 ++
  (kGroup "high" "Store.high" 147 351 85 2 true ["self", "x"] (stAt (bodyS (stAt pw.main.body 16)) 6) "fdsolve.store" 291 ++
  (kGroup "has" "Store.has" 154 359 88 3 true ["self", "x", "v"] (stAt (bodyS (stAt pw.main.body 16)) 7) "fdsolve.store" 291 ++
  (kGroup "is_fixed" "Store.is_fixed" 161 368 91 2 true ["self", "x", "domain"] (stAt (bodyS (stAt pw.main.body 16)) 8) "fdsolve.store" 291 ++
  (kGroup "value" "Store.value" 168 377 95 2 true ["self", "x"] (stAt (bodyS (stAt pw.main.body 16)) 9) "fdsolve.store" 291 ++
  (kGroup "width" "Store.width" 175 385 98 2 true ["self", "x"] (stAt (bodyS (stAt pw.main.body 16)) 10) "fdsolve.store" 291 ++
  (kGroup "holds" "Store.holds" 182 393 101 2 true ["self", "literal"] (stAt (bodyS (stAt pw.main.body 16)) 11) "fdsolve.store" 291 ++
  (kGroup "enter" "Store.enter" 189 401 104 4 true ["self", "literal", "reasons", "speaker", "x", "old", "fresh"] (stAt (bodyS (stAt pw.main.body 16)) 12) "fdsolve.store" 291 ++
  (kGroup "strike" "Store.strike" 196 414 117 3 true ["self", "literal", "reasons"] (stAt (bodyS (stAt pw.main.body 16)) 13) "fdsolve.store" 291 ++
  (kGroup "decide" "Store.decide" 203 423 120 2 true ["self", "literal"] (stAt (bodyS (stAt pw.main.body 16)) 14) "fdsolve.store" 291 ++
  (kGroup "fail" "Store.fail" 210 431 123 2 true ["self", "reasons"] (stAt (bodyS (stAt pw.main.body 16)) 15) "fdsolve.store" 291 ++
  (kGroup "push" "Store.push" 217 439 128 1 true ["self"] (stAt (bodyS (stAt pw.main.body 16)) 16) "fdsolve.store" 291 ++
  (kGroup "pop" "Store.pop" 224 446 131 2 true ["self", "n", "mark", "entry"] (stAt (bodyS (stAt pw.main.body 16)) 17) "fdsolve.store" 291 ++
  (kGroup "depth" "Store.depth" 231 456 143 1 true ["self"] (stAt (bodyS (stAt pw.main.body 16)) 18) "fdsolve.store" 291 ++
  (kGroup "changed" "Store.changed" 238 463 146 1 true ["self", "found"] (stAt (bodyS (stAt pw.main.body 16)) 19) "fdsolve.store" 291 ++
  ([{ cls := Value.type "tuple", data := Data.seq #[Value.str (Str.ofString "clash") 471, Value.str (Str.ofString "domains") 472, Value.str (Str.ofString "firsts") 473, Value.str (Str.ofString "is_failed") 474, Value.str (Str.ofString "marks") 475, Value.str (Str.ofString "news") 476, Value.str (Str.ofString "speaker") 477, Value.str (Str.ofString "trail") 478] }, { cls := Value.type "dict", data := Data.dict #[kEnt P "__module__" 300 (Value.str (Str.ofString "fdsolve.store") 291), kEnt P "__firstlineno__" 304 (Value.int 54 303), kEnt P "__init__" 311 (Value.ref 106), kEnt P "new_var" 319 (Value.ref 113), kEnt P "size" 326 (Value.ref 120), kEnt P "dom" 334 (Value.ref 127), kEnt P "initial" 342 (Value.ref 134), kEnt P "low" 350 (Value.ref 141), kEnt P "high" 358 (Value.ref 148), kEnt P "has" 367 (Value.ref 155), kEnt P "is_fixed" 376 (Value.ref 162), kEnt P "value" 384 (Value.ref 169), kEnt P "width" 392 (Value.ref 176), kEnt P "holds" 400 (Value.ref 183), kEnt P "enter" 413 (Value.ref 190), kEnt P "strike" 422 (Value.ref 197), kEnt P "decide" 430 (Value.ref 204), kEnt P "fail" 438 (Value.ref 211), kEnt P "push" 445 (Value.ref 218), kEnt P "pop" 455 (Value.ref 225), kEnt P "depth" 462 (Value.ref 232), kEnt P "changed" 470 (Value.ref 239), kEnt P "__static_attributes__" 479 (Value.ref 240), kEnt P "__dict__" 481 (Value.ref 243), kEnt P "__weakref__" 483 (Value.ref 244), kEnt P "__doc__" 484 (Value.none)] 4 }, { cls := Value.type "type", data := Data.cls { name := Str.ofString "Store", bases := [Value.type "object"], mro := [Value.ref 242, Value.type "object"], ns := 241, qualname := Str.ofString "Store" }, slots := #[none, none, some (Value.str (Str.ofString "Store") 293), some (Value.str (Str.ofString "Store") 301), some (Value.builtin "object.__new__"), some (Value.bool true)] }, { cls := Value.type "getset_descriptor", data := Data.fields #[Value.str (Str.ofString "__dict__") 480, Value.ref 242, Value.builtin "function.__dict__", Value.builtin "function.__dict__#set"] }, { cls := Value.type "getset_descriptor", data := Data.fields #[Value.str (Str.ofString "__weakref__") 482, Value.ref 242, Value.builtin "ExceptionGroup.__weakref__", Value.none] }, { cls := Value.type "super", data := Data.fields #[Value.ref 242, Value.ref 242, Value.ref 242] }, { cls := Value.type "builtin_function_or_method", data := Data.fields #[Value.builtin "object.__init_subclass__", Value.ref 242] }])))))))))))))))))))))
noncomputable def hL (P : Params) : List Obj :=
  kGroup "_law_draw" "_law_draw" 252 489 151 2 true ["feed", "many", "k"] (stAt pw.main.body 18) "law_no0305_01" 487 ++
  (kGroup "_law_ranges" "_law_ranges" 259 498 157 1 true ["some", "found", "v"] (stAt pw.main.body 19) "law_no0305_01" 487 ++
  (kGroup "_law_keeps" "_law_keeps" 266 507 165 3 true ["v", "sign", "k"] (stAt pw.main.body 20) "law_no0305_01" 487 ++
  (kGroup "_law_against" "_law_against" 273 516 169 1 true ["literal", "x", "sign", "k"] (stAt pw.main.body 21) "law_no0305_01" 487 ++
  (kGroup "_law_literal" "_law_literal" 280 526 174 2 true ["feed", "many", "x", "sign"] (stAt pw.main.body 22) "law_no0305_01" 487 ++
  (kGroup "_law_numbers" "_law_numbers" 285 536 177 1 false [] (stAt pw.main.body 23) "law_no0305_01" 487 ++
  (kGroup "_law_said" "_law_said" 290 542 182 2 false [] (stAt pw.main.body 24) "law_no0305_01" 487 ++
  (kGroup "_law_struck" "_law_struck" 295 548 187 4 false [] (stAt pw.main.body 25) "law_no0305_01" 487 ++
  (kGroup "_law_is_seen" "_law_is_seen" 300 554 198 3 false [] (stAt pw.main.body 26) "law_no0305_01" 487 ++
  (kGroup "_law_begun" "_law_begun" 307 560 213 2 true ["told", "state"] (stAt pw.main.body 27) "law_no0305_01" 487 ++
  (kGroup "_law_taken_back" "_law_taken_back" 314 568 217 3 true ["told", "state", "many", "lap"] (stAt pw.main.body 28) "law_no0305_01" 487 ++
  (kGroup "_law_deed" "_law_deed" 319 578 223 4 false [] (stAt pw.main.body 29) "law_no0305_01" 487 ++
  (kGroup "law" "law" 324 584 236 1 false [] (stAt pw.main.body 30) "law_no0305_01" 487))))))))))))
noncomputable def hl1 (P : Params) : List Obj := hPre P (mainD P "fdsolve.store" 291 22 23) (kConsts (Value.int 0 0) (mainC.take 12)) ++ (hA P)
noncomputable def hl2 (P : Params) : List Obj := hPre P (mainD P "fdsolve.store" 291 23 24) (kConsts (Value.int 0 0) (mainC.take 13)) ++ (hA P ++ (hC P))
noncomputable def hl3 (P : Params) : List Obj := hPre P (mainD P "law_no0305_01" 487 36 37) (kConsts (Value.int 0 0) (mainC.take 26)) ++ (hA P ++ (hC P ++ (hL P)))
noncomputable def hl0 (P : Params) : List Obj := hPre P (PySem.W.boot_o_3 P) kEmp
noncomputable def hp0 (P : Params) : Heap := ⟨⟨hl0 P⟩, {}⟩
noncomputable def hp3 (P : Params) : Heap := ⟨⟨hl3 P⟩, {}⟩
noncomputable def splitEO : List Obj → List Obj × List Obj
  | [] => ([], [])
  | x :: r => match splitEO r with
    | (a, b) => (x :: b, a)
noncomputable def mkBT : Nat → List Obj → BT
  | 0, _ => .nil
  | _ + 1, [] => .nil
  | n + 1, o :: r => match splitEO r with
    | (a, b) => .node o (mkBT n a) (mkBT n b)
noncomputable def shT (l : List Obj) (n t : Nat) (os : OsState) : SharedT := ⟨mkBT 10 l, n, {}, Array.mk [], {}, t, os⟩
noncomputable abbrev lawP : Program := lawL.row.toRowW.prog
noncomputable def envT : Env := { scope := lawP.main.scope, locals := mainNs, globals := mainNs, cells := [], code := .ref 13, frame := some 14 }
noncomputable def q0 : Pos := ⟨0, 0, 0, 0⟩
noncomputable def codeT : Code := .body (behindTheImports lawP) envT
noncomputable def sh (h : Heap) (t : Nat) (os : OsState) : Shared := ⟨h, Array.mk [], {}, t, os⟩
noncomputable def gr1 : List Stmt := lawP.main.body.take 16
noncomputable def gr2 : List Stmt := [stAt lawP.main.body 16]
noncomputable def gr3 : List Stmt := lawP.main.body.drop 17
theorem body_eq : behindTheImports lawP = gr1 ++ (gr2 ++ (gr3 ++ [])) := by kernel_rfl
theorem pc0 (w : World) (os : OsState) : topGo treeTable lawP w 11 (some (.ref 6)) 12 ⟨boot_heap w.params, Array.mk [], boot_drawn, boot_toks, os⟩ (topStub lawP) = some (sh (hp0 w.params) 187 os, ⟨denote treeTable codeT, codeT, q0, [topFrame q0]⟩) := by kernel_rfl
theorem pcb (w : World) (os : OsState) : segRun treeTable lawP w 11 (some (.ref 6)) 1 1 (sh (hp0 w.params) 187 os) (blockOf (behindTheImports lawP) envT codeT q0 [topFrame q0]) = some (.next, (shT (hl0 w.params) 15 187 os).abs, codeT, q0) := by kernel_rfl
theorem pc1 (w : World) (os : OsState) : segRunT treeTable lawP w 11 (some (.ref 6)) 1 397 (shT (hl0 w.params) 15 187 os) (piecesOf gr1 envT codeT q0 [topFrame q0]) = some (.next, shT (hl1 w.params) 93 293 os, codeT, ⟨53, 0, 53, 8⟩) := by kernel_rfl
theorem pc2 (w : World) (os : OsState) : segRunT treeTable lawP w 11 (some (.ref 6)) 1 844 (shT (hl1 w.params) 93 293 os) (piecesOf gr2 envT codeT ⟨53, 0, 53, 8⟩ [topFrame q0]) = some (.next, shT (hl2 w.params) 247 487 os, codeT, ⟨54, 0, 149, 20⟩) := by kernel_rfl
theorem pc3 (w : World) (os : OsState) : segRunT treeTable lawP w 11 (some (.ref 6)) 1 385 (shT (hl2 w.params) 247 487 os) (piecesOf gr3 envT codeT ⟨54, 0, 149, 20⟩ [topFrame q0]) = some (.next, shT (hl3 w.params) 326 590 os, codeT, ⟨236, 0, 260, 80⟩) := by kernel_rfl
theorem pc4 (w : World) (os : OsState) : topRun treeTable lawP w 11 (some (.ref 6)) 2 (shT (hl3 w.params) 326 590 os).abs ⟨doneF .next, codeT, ⟨236, 0, 260, 80⟩, [topFrame q0]⟩ = some (sh (hp3 w.params) 590 os) := by kernel_rfl
theorem runT (w : World) (os : OsState) : topRun treeTable lawP w 11 (some (.ref 6)) (12 + (1 + (397 + (844 + (385 + 2))))) ⟨boot_heap w.params, Array.mk [], boot_drawn, boot_toks, os⟩ (topStub lawP) = some (sh (hp3 w.params) 590 os) := by
  refine go_top (pc0 w os) (piece_block (pcb w os) ?_)
  rw [body_eq]
  exact piece_app (segRun_of (pc1 w os)) (piece_app (segRun_of (pc2 w os)) (piece_app (segRun_of (pc3 w os)) (piece_nil (pc4 w os))))
theorem openT : ∀ w : World, (fencedOpening treeTable lawP w 3372).map (fun s => (s.heap, s.gens, s.drawn, s.toks)) = some (boot_heap w.params, Array.mk [], boot_drawn, boot_toks) := boot_open (by kernel_rfl) rfl (fun s => by kernel_rfl)
noncomputable abbrev xtT : Shared → Bool := fun s => xlAt qv [] s && recOk (RowW.records lawL.row.toRowW) s
theorem la (w : World) (os : OsState) : (staticsOk (importedModules lawP.main.body) (boot_heap w.params) (hp3 w.params) && namesBound lawP (hp3 w.params) && gensDone ⟨hp3 w.params, Array.mk [], {}, 590, os⟩ && laidKept (boot_heap w.params) (hp3 w.params)) = true := by kernel_rfl
theorem lb (w : World) (os : OsState) : openSeen qv qLoose (importedModules lawP.main.body) xtT true ⟨hp3 w.params, Array.mk [], {}, 590, os⟩ = openGood qv qLoose := by kernel_rfl
theorem lc (w : World) (os : OsState) : lawH.obs ⟨hp3 w.params, Array.mk [], {}, 590, os⟩ = lawH.val w := by kernel_rfl
theorem sa1 : namesResolve lawL.row.toRowW.prog = true := by kernel_rfl
theorem sa2 : noRoadLSs { strict := !(importedModules lawL.row.toRowW.prog.main.body).all cThrough.contains, foot := none, bare := (["vars", "dir", "locals"] : List Str).filter (readsOut lawL.row.toRowW.prog lawL.row.toRowW.prog.main.body) } lawL.row.toRowW.prog.main.body = true := by kernel_rfl
theorem sa3 : (namesMeet lawL.row.toRowW.prog lawL.row.toRowW.prog.main.body fun _ n => attrL n) = true := by kernel_rfl
theorem sa : looksOpen lawL.row.toRowW.prog = true := by
  unfold looksOpen
  refine look_both (look_both (look_both (look_both ?_ sa1) ?_) sa2) sa3 <;> kernel_rfl
theorem sr : lawL.row.wellSaid = true := by
  unfold OpenRow.wellSaid OpenRow.partSaid
  rw [sa]
  kernel_rfl
theorem sl : noRoadLSs { strict := true, foot := some lawL.bound', writes := lawL.writes, may := lawL.may } lawL.footing = true := by kernel_rfl
theorem said0 : lawL.wellSaid = true := by
  unfold OpenLaw.wellSaid
  rw [sr, sl]
  repeat' (with_reducible apply look_both)
  all_goals kernel_rfl
theorem left0 : LeftO lawP qv qLoose xtT lawH.obs lawH.val 3372 :=
  LeftO.of_pieces (H₀ := boot_heap) (H₁ := hp3) (gs₀ := Array.mk []) (gs₁ := Array.mk []) (d₀ := boot_drawn) (d₁ := {}) (k₀ := boot_toks) (k₁ := 590) (m₀ := 11) (ann := some (.ref 6)) (M := 12 + (1 + (397 + (844 + (385 + 2))))) openT (fun w => by kernel_rfl) runT rfl (fun w => funext fun os => looks_pair (la w os) (looks_pair (lb w os) (lc w os)))
end Mine
end
section
set_option maxRecDepth 1000000
namespace Mine
open PySem
noncomputable def fnD (K : PySem.W.Frag) (f : Addr) : FuncData := match K.lookup f with
  | some ⟨_, _, .func fd, _⟩ => fd
  | _ => default
noncomputable def isFnK (K : PySem.W.Frag) (f : Addr) : Bool := match K.lookup f with
  | some ⟨_, _, .func _, _⟩ => true
  | _ => false
noncomputable def codeOkK (K : PySem.W.Frag) (f : Addr) : Bool := match (fnD K f).code with
  | Value.ref c => match K.lookup c with
    | some ⟨_, _, .fields vs, _⟩ => match vs[1]? with
      | some (Value.str q _) => decide (q = (fnD K f).qualname)
      | _ => false
    | _ => false
  | _ => false
theorem ar1 {fd : FuncData} {a : Nat} (h : ∀ v0, bindArgs fd ⟨[v0], []⟩ = pure [(nm a, v0)]) (vals : List Value) (hl : vals.length = [a].length) : bindArgs fd ⟨vals, []⟩ = pure (([a].map nm).zip vals) := by
  match vals, hl with
  | [v0], _ => exact h v0
theorem ar2 {fd : FuncData} {a b : Nat} (h : ∀ v0 v1, bindArgs fd ⟨[v0, v1], []⟩ = pure [(nm a, v0), (nm b, v1)]) (vals : List Value) (hl : vals.length = [a, b].length) : bindArgs fd ⟨vals, []⟩ = pure (([a, b].map nm).zip vals) := by
  match vals, hl with
  | [v0, v1], _ => exact h v0 v1
theorem ar3 {fd : FuncData} {a b c : Nat} (h : ∀ v0 v1 v2, bindArgs fd ⟨[v0, v1, v2], []⟩ = pure [(nm a, v0), (nm b, v1), (nm c, v2)]) (vals : List Value) (hl : vals.length = [a, b, c].length) : bindArgs fd ⟨vals, []⟩ = pure (([a, b, c].map nm).zip vals) := by
  match vals, hl with
  | [v0, v1, v2], _ => exact h v0 v1 v2
theorem ar4 {fd : FuncData} {a b c d : Nat} (h : ∀ v0 v1 v2 v3, bindArgs fd ⟨[v0, v1, v2, v3], []⟩ = pure [(nm a, v0), (nm b, v1), (nm c, v2), (nm d, v3)]) (vals : List Value) (hl : vals.length = [a, b, c, d].length) : bindArgs fd ⟨vals, []⟩ = pure (([a, b, c, d].map nm).zip vals) := by
  match vals, hl with
  | [v0, v1, v2, v3], _ => exact h v0 v1 v2 v3
theorem FnIs.ofK {W : Wd} (kin : W.K.In W.h₀) {f : Addr} {ps : List Nat} {sc : Scope} {body : List Stmt} (h1 : isFnK W.K f = true) (h2 : (fnD W.K f).scope = sc) (h3 : (fnD W.K f).body = .stmts body) (h4 : (fnD W.K f).closure = []) (h5 : (fnD W.K f).globals = mainGlobals) (h6 : (fnD W.K f).builtins = builtinsNs) (h7 : codeOkK W.K f = true)
    (h8 : ∀ vals : List Value, vals.length = ps.length → bindArgs (fnD W.K f) ⟨vals, []⟩ = pure ((ps.map nm).zip vals)) (co : sc.isCoroutine = false) (gen : sc.isGenerator = false) (kind : sc.kind = .function) (nodup : ps.Nodup) (pk : ∀ k ∈ ps, k < nN ∧ (sc.names.lookup (nm k) = some .local ∨ sc.names.lookup (nm k) = some .cell)) (cn : ((cellsFrom 0 sc.names []).map (·.1)).Nodup) : FnIs W f ps sc body := by
  refine ⟨?_, co, gen, kind, nodup, pk, cn⟩
  unfold isFnK at h1
  split at h1
  · rename_i c d fd sl ho
    have hfd : fnD W.K f = fd := by unfold fnD; rw [ho]
    rw [hfd] at h2 h3 h4 h5 h6 h8
    refine ⟨_, fd, kin _ _ ho, rfl, h2, h3, h4, h5, h6, ?_, h8⟩
    unfold codeOkK at h7
    rw [hfd] at h7
    split at h7
    · rename_i c' hc
      split at h7
      · rename_i vs _ ho'
        split at h7
        · rename_i q t hq
          exact ⟨c', _, vs, t, hc, kin _ _ ho', rfl, by rw [hq, of_decide_eq_true h7]⟩
        · cases h7
      · cases h7
    · cases h7
  · cases h1
theorem ns_in {K : PySem.W.Frag} {h : Heap} (x : K.In h) {ns : Addr} {mg : Str → Option Value} (g : h.Ns ns mg) {y : Str} {r : Option Value} (e : PySem.W.nsIn K ns y = some r) : mg y = r := by
  obtain ⟨o, es, ep, ho, hd, hk, hm⟩ := g
  unfold PySem.W.nsIn at e
  split at e
  · rename_i c d es' n sl ho'
    have := x _ _ ho'
    rw [ho] at this
    cases this
    cases hd
    rw [← hm y]
    unfold nsFind findBy
    rw [← Array.find?_toList]
    split at e
    · rename_i en he; cases e; rw [he]; rfl
    · rename_i he
      rw [he]
      split at e
      · cases e
      · cases e; rfl
  · cases e
theorem GName.ofK {W : Wd} (kin : W.K.In W.h₀) (g : W.h₀.Ns mainGlobals W.mg) {x : Str} {v : Value} (e : PySem.W.nsIn W.K mainGlobals x = some (some v)) : GName W x v := .inl (ns_in kin g e)
theorem GName.ofB {W : Wd} (kin : W.K.In W.h₀) (g : W.h₀.Ns mainGlobals W.mg) (b : ∀ x : Str, x ≠ "__name__" → W.mb x = bootBuiltins x) {x : Str} {v : Value} (e : PySem.W.nsIn W.K mainGlobals x = some none) (hx : x ≠ "__name__") (hv : bootBuiltins x = some v) : GName W x v := .inr ⟨ns_in kin g e, by rw [b x hx]; exact hv⟩
noncomputable def theW (w : World) (h : Heap) (mg mb : Str → Option Value) : Wd := { prog := PySem.Challenge.rw_no0305_01.row.prog, w := w, h₀ := h, C := 242, K := theK w.params, mg := mg, mb := mb }
theorem wOk {w : World} {h : Heap} {mg mb : Str → Option Value} (KX : (theK w.params).In h) (g : h.Ns mainGlobals mg) (b : h.Ns builtinsNs mb) (nl : h.NoLimit) (bb : ∀ x : Str, x ≠ "__name__" → mb x = bootBuiltins x) (ns : h.NoSeer) : (theW w h mg mb).Ok :=
  ⟨KX, g, b, nl, bb, let ⟨_, ⟨o, _, _, ho, _⟩, _⟩ := ns.mods; ⟨o, ho⟩⟩
theorem clsOk (w : World) (h : Heap) (mg mb : Str → Option Value) : ClsOk (theW w h mg mb) := ⟨by kernel_rfl, by kernel_rfl, by kernel_rfl, by kernel_rfl, by kernel_rfl⟩
theorem kf_least {w : World} {h : Heap} {mg mb : Str → Option Value} (ok : (theW w h mg mb).Ok) : FnIs (theW w h mg mb) 21 [0] (scopeS (stAt pw.main.body 1)) (bodyS (stAt pw.main.body 1)) := FnIs.ofK ok.kin (by kernel_rfl) (by kernel_rfl) (by kernel_rfl) (by kernel_rfl) (by kernel_rfl) (by kernel_rfl) (by kernel_rfl) (ar1 fun v0 => by kernel_rfl) (by kernel_rfl) (by kernel_rfl) (by kernel_rfl) (by decide) (by intro k hk; simp only [List.mem_cons, List.not_mem_nil, or_false] at hk; rcases hk with rfl; exact ⟨by decide, (.inl (by kernel_rfl))⟩) (by decide +kernel)
theorem kf_greatest {w : World} {h : Heap} {mg mb : Str → Option Value} (ok : (theW w h mg mb).Ok) : FnIs (theW w h mg mb) 28 [0] (scopeS (stAt pw.main.body 2)) (bodyS (stAt pw.main.body 2)) := FnIs.ofK ok.kin (by kernel_rfl) (by kernel_rfl) (by kernel_rfl) (by kernel_rfl) (by kernel_rfl) (by kernel_rfl) (by kernel_rfl) (ar1 fun v0 => by kernel_rfl) (by kernel_rfl) (by kernel_rfl) (by kernel_rfl) (by decide) (by intro k hk; simp only [List.mem_cons, List.not_mem_nil, or_false] at hk; rcases hk with rfl; exact ⟨by decide, (.inl (by kernel_rfl))⟩) (by decide +kernel)
theorem kf_size {w : World} {h : Heap} {mg mb : Str → Option Value} (ok : (theW w h mg mb).Ok) : FnIs (theW w h mg mb) 33 [0] (scopeS (stAt pw.main.body 3)) (bodyS (stAt pw.main.body 3)) := FnIs.ofK ok.kin (by kernel_rfl) (by kernel_rfl) (by kernel_rfl) (by kernel_rfl) (by kernel_rfl) (by kernel_rfl) (by kernel_rfl) (ar1 fun v0 => by kernel_rfl) (by kernel_rfl) (by kernel_rfl) (by kernel_rfl) (by decide) (by intro k hk; simp only [List.mem_cons, List.not_mem_nil, or_false] at hk; rcases hk with rfl; exact ⟨by decide, (.inl (by kernel_rfl))⟩) (by decide +kernel)
theorem kf_next_from {w : World} {h : Heap} {mg mb : Str → Option Value} (ok : (theW w h mg mb).Ok) : FnIs (theW w h mg mb) 40 [0, 1] (scopeS (stAt pw.main.body 5)) (bodyS (stAt pw.main.body 5)) := FnIs.ofK ok.kin (by kernel_rfl) (by kernel_rfl) (by kernel_rfl) (by kernel_rfl) (by kernel_rfl) (by kernel_rfl) (by kernel_rfl) (ar2 fun v0 v1 => by kernel_rfl) (by kernel_rfl) (by kernel_rfl) (by kernel_rfl) (by decide) (by intro k hk; simp only [List.mem_cons, List.not_mem_nil, or_false] at hk; rcases hk with rfl | rfl; exact ⟨by decide, (.inl (by kernel_rfl))⟩; exact ⟨by decide, (.inl (by kernel_rfl))⟩) (by decide +kernel)
theorem kf_has {w : World} {h : Heap} {mg mb : Str → Option Value} (ok : (theW w h mg mb).Ok) : FnIs (theW w h mg mb) 47 [0, 1] (scopeS (stAt pw.main.body 6)) (bodyS (stAt pw.main.body 6)) := FnIs.ofK ok.kin (by kernel_rfl) (by kernel_rfl) (by kernel_rfl) (by kernel_rfl) (by kernel_rfl) (by kernel_rfl) (by kernel_rfl) (ar2 fun v0 v1 => by kernel_rfl) (by kernel_rfl) (by kernel_rfl) (by kernel_rfl) (by decide) (by intro k hk; simp only [List.mem_cons, List.not_mem_nil, or_false] at hk; rcases hk with rfl | rfl; exact ⟨by decide, (.inl (by kernel_rfl))⟩; exact ⟨by decide, (.inl (by kernel_rfl))⟩) (by decide +kernel)
theorem kf_up_to {w : World} {h : Heap} {mg mb : Str → Option Value} (ok : (theW w h mg mb).Ok) : FnIs (theW w h mg mb) 52 [0, 4] (scopeS (stAt pw.main.body 8)) (bodyS (stAt pw.main.body 8)) := FnIs.ofK ok.kin (by kernel_rfl) (by kernel_rfl) (by kernel_rfl) (by kernel_rfl) (by kernel_rfl) (by kernel_rfl) (by kernel_rfl) (ar2 fun v0 v1 => by kernel_rfl) (by kernel_rfl) (by kernel_rfl) (by kernel_rfl) (by decide) (by intro k hk; simp only [List.mem_cons, List.not_mem_nil, or_false] at hk; rcases hk with rfl | rfl; exact ⟨by decide, (.inl (by kernel_rfl))⟩; exact ⟨by decide, (.inr (by kernel_rfl))⟩) (by decide +kernel)
theorem kf_from_on {w : World} {h : Heap} {mg mb : Str → Option Value} (ok : (theW w h mg mb).Ok) : FnIs (theW w h mg mb) 57 [0, 4] (scopeS (stAt pw.main.body 9)) (bodyS (stAt pw.main.body 9)) := FnIs.ofK ok.kin (by kernel_rfl) (by kernel_rfl) (by kernel_rfl) (by kernel_rfl) (by kernel_rfl) (by kernel_rfl) (by kernel_rfl) (ar2 fun v0 v1 => by kernel_rfl) (by kernel_rfl) (by kernel_rfl) (by kernel_rfl) (by decide) (by intro k hk; simp only [List.mem_cons, List.not_mem_nil, or_false] at hk; rcases hk with rfl | rfl; exact ⟨by decide, (.inl (by kernel_rfl))⟩; exact ⟨by decide, (.inr (by kernel_rfl))⟩) (by decide +kernel)
theorem kf_without {w : World} {h : Heap} {mg mb : Str → Option Value} (ok : (theW w h mg mb).Ok) : FnIs (theW w h mg mb) 64 [0, 1] (scopeS (stAt pw.main.body 10)) (bodyS (stAt pw.main.body 10)) := FnIs.ofK ok.kin (by kernel_rfl) (by kernel_rfl) (by kernel_rfl) (by kernel_rfl) (by kernel_rfl) (by kernel_rfl) (by kernel_rfl) (ar2 fun v0 v1 => by kernel_rfl) (by kernel_rfl) (by kernel_rfl) (by kernel_rfl) (by decide) (by intro k hk; simp only [List.mem_cons, List.not_mem_nil, or_false] at hk; rcases hk with rfl | rfl; exact ⟨by decide, (.inl (by kernel_rfl))⟩; exact ⟨by decide, (.inl (by kernel_rfl))⟩) (by decide +kernel)
theorem kf_meet {w : World} {h : Heap} {mg mb : Str → Option Value} (ok : (theW w h mg mb).Ok) : FnIs (theW w h mg mb) 71 [0, 5] (scopeS (stAt pw.main.body 11)) (bodyS (stAt pw.main.body 11)) := FnIs.ofK ok.kin (by kernel_rfl) (by kernel_rfl) (by kernel_rfl) (by kernel_rfl) (by kernel_rfl) (by kernel_rfl) (by kernel_rfl) (ar2 fun v0 v1 => by kernel_rfl) (by kernel_rfl) (by kernel_rfl) (by kernel_rfl) (by decide) (by intro k hk; simp only [List.mem_cons, List.not_mem_nil, or_false] at hk; rcases hk with rfl | rfl; exact ⟨by decide, (.inl (by kernel_rfl))⟩; exact ⟨by decide, (.inl (by kernel_rfl))⟩) (by decide +kernel)
theorem kf_negation {w : World} {h : Heap} {mg mb : Str → Option Value} (ok : (theW w h mg mb).Ok) : FnIs (theW w h mg mb) 78 [9] (scopeS (stAt pw.main.body 12)) (bodyS (stAt pw.main.body 12)) := FnIs.ofK ok.kin (by kernel_rfl) (by kernel_rfl) (by kernel_rfl) (by kernel_rfl) (by kernel_rfl) (by kernel_rfl) (by kernel_rfl) (ar1 fun v0 => by kernel_rfl) (by kernel_rfl) (by kernel_rfl) (by kernel_rfl) (by decide) (by intro k hk; simp only [List.mem_cons, List.not_mem_nil, or_false] at hk; rcases hk with rfl; exact ⟨by decide, (.inl (by kernel_rfl))⟩) (by decide +kernel)
theorem kf_struck {w : World} {h : Heap} {mg mb : Str → Option Value} (ok : (theW w h mg mb).Ok) : FnIs (theW w h mg mb) 85 [9, 0] (scopeS (stAt pw.main.body 13)) (bodyS (stAt pw.main.body 13)) := FnIs.ofK ok.kin (by kernel_rfl) (by kernel_rfl) (by kernel_rfl) (by kernel_rfl) (by kernel_rfl) (by kernel_rfl) (by kernel_rfl) (ar2 fun v0 v1 => by kernel_rfl) (by kernel_rfl) (by kernel_rfl) (by kernel_rfl) (by decide) (by intro k hk; simp only [List.mem_cons, List.not_mem_nil, or_false] at hk; rcases hk with rfl | rfl; exact ⟨by decide, (.inl (by kernel_rfl))⟩; exact ⟨by decide, (.inl (by kernel_rfl))⟩) (by decide +kernel)
theorem kf_said_of {w : World} {h : Heap} {mg mb : Str → Option Value} (ok : (theW w h mg mb).Ok) : FnIs (theW w h mg mb) 92 [9, 0] (scopeS (stAt pw.main.body 14)) (bodyS (stAt pw.main.body 14)) := FnIs.ofK ok.kin (by kernel_rfl) (by kernel_rfl) (by kernel_rfl) (by kernel_rfl) (by kernel_rfl) (by kernel_rfl) (by kernel_rfl) (ar2 fun v0 v1 => by kernel_rfl) (by kernel_rfl) (by kernel_rfl) (by kernel_rfl) (by decide) (by intro k hk; simp only [List.mem_cons, List.not_mem_nil, or_false] at hk; rcases hk with rfl | rfl; exact ⟨by decide, (.inl (by kernel_rfl))⟩; exact ⟨by decide, (.inl (by kernel_rfl))⟩) (by decide +kernel)
theorem km__init__ {w : World} {h : Heap} {mg mb : Str → Option Value} (ok : (theW w h mg mb).Ok) : FnIs (theW w h mg mb) 106 [13] (scopeS (stAt (bodyS (stAt pw.main.body 16)) 0)) (bodyS (stAt (bodyS (stAt pw.main.body 16)) 0)) := FnIs.ofK ok.kin (by kernel_rfl) (by kernel_rfl) (by kernel_rfl) (by kernel_rfl) (by kernel_rfl) (by kernel_rfl) (by kernel_rfl) (ar1 fun v0 => by kernel_rfl) (by kernel_rfl) (by kernel_rfl) (by kernel_rfl) (by decide) (by intro k hk; simp only [List.mem_cons, List.not_mem_nil, or_false] at hk; rcases hk with rfl; exact ⟨by decide, (.inl (by kernel_rfl))⟩) (by decide +kernel)
theorem km_fail {w : World} {h : Heap} {mg mb : Str → Option Value} (ok : (theW w h mg mb).Ok) : FnIs (theW w h mg mb) 211 [13, 15] (scopeS (stAt (bodyS (stAt pw.main.body 16)) 15)) (bodyS (stAt (bodyS (stAt pw.main.body 16)) 15)) := FnIs.ofK ok.kin (by kernel_rfl) (by kernel_rfl) (by kernel_rfl) (by kernel_rfl) (by kernel_rfl) (by kernel_rfl) (by kernel_rfl) (ar2 fun v0 v1 => by kernel_rfl) (by kernel_rfl) (by kernel_rfl) (by kernel_rfl) (by decide) (by intro k hk; simp only [List.mem_cons, List.not_mem_nil, or_false] at hk; rcases hk with rfl | rfl; exact ⟨by decide, (.inl (by kernel_rfl))⟩; exact ⟨by decide, (.inl (by kernel_rfl))⟩) (by decide +kernel)
theorem km_new_var {w : World} {h : Heap} {mg mb : Str → Option Value} (ok : (theW w h mg mb).Ok) : FnIs (theW w h mg mb) 113 [13, 14] (scopeS (stAt (bodyS (stAt pw.main.body 16)) 1)) (bodyS (stAt (bodyS (stAt pw.main.body 16)) 1)) := FnIs.ofK ok.kin (by kernel_rfl) (by kernel_rfl) (by kernel_rfl) (by kernel_rfl) (by kernel_rfl) (by kernel_rfl) (by kernel_rfl) (ar2 fun v0 v1 => by kernel_rfl) (by kernel_rfl) (by kernel_rfl) (by kernel_rfl) (by decide) (by intro k hk; simp only [List.mem_cons, List.not_mem_nil, or_false] at hk; rcases hk with rfl | rfl; exact ⟨by decide, (.inl (by kernel_rfl))⟩; exact ⟨by decide, (.inl (by kernel_rfl))⟩) (by decide +kernel)
theorem km_size {w : World} {h : Heap} {mg mb : Str → Option Value} (ok : (theW w h mg mb).Ok) : FnIs (theW w h mg mb) 120 [13] (scopeS (stAt (bodyS (stAt pw.main.body 16)) 2)) (bodyS (stAt (bodyS (stAt pw.main.body 16)) 2)) := FnIs.ofK ok.kin (by kernel_rfl) (by kernel_rfl) (by kernel_rfl) (by kernel_rfl) (by kernel_rfl) (by kernel_rfl) (by kernel_rfl) (ar1 fun v0 => by kernel_rfl) (by kernel_rfl) (by kernel_rfl) (by kernel_rfl) (by decide) (by intro k hk; simp only [List.mem_cons, List.not_mem_nil, or_false] at hk; rcases hk with rfl; exact ⟨by decide, (.inl (by kernel_rfl))⟩) (by decide +kernel)
theorem km_dom {w : World} {h : Heap} {mg mb : Str → Option Value} (ok : (theW w h mg mb).Ok) : FnIs (theW w h mg mb) 127 [13, 10] (scopeS (stAt (bodyS (stAt pw.main.body 16)) 3)) (bodyS (stAt (bodyS (stAt pw.main.body 16)) 3)) := FnIs.ofK ok.kin (by kernel_rfl) (by kernel_rfl) (by kernel_rfl) (by kernel_rfl) (by kernel_rfl) (by kernel_rfl) (by kernel_rfl) (ar2 fun v0 v1 => by kernel_rfl) (by kernel_rfl) (by kernel_rfl) (by kernel_rfl) (by decide) (by intro k hk; simp only [List.mem_cons, List.not_mem_nil, or_false] at hk; rcases hk with rfl | rfl; exact ⟨by decide, (.inl (by kernel_rfl))⟩; exact ⟨by decide, (.inl (by kernel_rfl))⟩) (by decide +kernel)
theorem km_initial {w : World} {h : Heap} {mg mb : Str → Option Value} (ok : (theW w h mg mb).Ok) : FnIs (theW w h mg mb) 134 [13, 10] (scopeS (stAt (bodyS (stAt pw.main.body 16)) 4)) (bodyS (stAt (bodyS (stAt pw.main.body 16)) 4)) := FnIs.ofK ok.kin (by kernel_rfl) (by kernel_rfl) (by kernel_rfl) (by kernel_rfl) (by kernel_rfl) (by kernel_rfl) (by kernel_rfl) (ar2 fun v0 v1 => by kernel_rfl) (by kernel_rfl) (by kernel_rfl) (by kernel_rfl) (by decide) (by intro k hk; simp only [List.mem_cons, List.not_mem_nil, or_false] at hk; rcases hk with rfl | rfl; exact ⟨by decide, (.inl (by kernel_rfl))⟩; exact ⟨by decide, (.inl (by kernel_rfl))⟩) (by decide +kernel)
theorem km_low {w : World} {h : Heap} {mg mb : Str → Option Value} (ok : (theW w h mg mb).Ok) : FnIs (theW w h mg mb) 141 [13, 10] (scopeS (stAt (bodyS (stAt pw.main.body 16)) 5)) (bodyS (stAt (bodyS (stAt pw.main.body 16)) 5)) := FnIs.ofK ok.kin (by kernel_rfl) (by kernel_rfl) (by kernel_rfl) (by kernel_rfl) (by kernel_rfl) (by kernel_rfl) (by kernel_rfl) (ar2 fun v0 v1 => by kernel_rfl) (by kernel_rfl) (by kernel_rfl) (by kernel_rfl) (by decide) (by intro k hk; simp only [List.mem_cons, List.not_mem_nil, or_false] at hk; rcases hk with rfl | rfl; exact ⟨by decide, (.inl (by kernel_rfl))⟩; exact ⟨by decide, (.inl (by kernel_rfl))⟩) (by decide +kernel)
theorem km_high {w : World} {h : Heap} {mg mb : Str → Option Value} (ok : (theW w h mg mb).Ok) : FnIs (theW w h mg mb) 148 [13, 10] (scopeS (stAt (bodyS (stAt pw.main.body 16)) 6)) (bodyS (stAt (bodyS (stAt pw.main.body 16)) 6)) := FnIs.ofK ok.kin (by kernel_rfl) (by kernel_rfl) (by kernel_rfl) (by kernel_rfl) (by kernel_rfl) (by kernel_rfl) (by kernel_rfl) (ar2 fun v0 v1 => by kernel_rfl) (by kernel_rfl) (by kernel_rfl) (by kernel_rfl) (by decide) (by intro k hk; simp only [List.mem_cons, List.not_mem_nil, or_false] at hk; rcases hk with rfl | rfl; exact ⟨by decide, (.inl (by kernel_rfl))⟩; exact ⟨by decide, (.inl (by kernel_rfl))⟩) (by decide +kernel)
theorem km_has {w : World} {h : Heap} {mg mb : Str → Option Value} (ok : (theW w h mg mb).Ok) : FnIs (theW w h mg mb) 155 [13, 10, 1] (scopeS (stAt (bodyS (stAt pw.main.body 16)) 7)) (bodyS (stAt (bodyS (stAt pw.main.body 16)) 7)) := FnIs.ofK ok.kin (by kernel_rfl) (by kernel_rfl) (by kernel_rfl) (by kernel_rfl) (by kernel_rfl) (by kernel_rfl) (by kernel_rfl) (ar3 fun v0 v1 v2 => by kernel_rfl) (by kernel_rfl) (by kernel_rfl) (by kernel_rfl) (by decide) (by intro k hk; simp only [List.mem_cons, List.not_mem_nil, or_false] at hk; rcases hk with rfl | rfl | rfl; exact ⟨by decide, (.inl (by kernel_rfl))⟩; exact ⟨by decide, (.inl (by kernel_rfl))⟩; exact ⟨by decide, (.inl (by kernel_rfl))⟩) (by decide +kernel)
theorem km_is_fixed {w : World} {h : Heap} {mg mb : Str → Option Value} (ok : (theW w h mg mb).Ok) : FnIs (theW w h mg mb) 162 [13, 10] (scopeS (stAt (bodyS (stAt pw.main.body 16)) 8)) (bodyS (stAt (bodyS (stAt pw.main.body 16)) 8)) := FnIs.ofK ok.kin (by kernel_rfl) (by kernel_rfl) (by kernel_rfl) (by kernel_rfl) (by kernel_rfl) (by kernel_rfl) (by kernel_rfl) (ar2 fun v0 v1 => by kernel_rfl) (by kernel_rfl) (by kernel_rfl) (by kernel_rfl) (by decide) (by intro k hk; simp only [List.mem_cons, List.not_mem_nil, or_false] at hk; rcases hk with rfl | rfl; exact ⟨by decide, (.inl (by kernel_rfl))⟩; exact ⟨by decide, (.inl (by kernel_rfl))⟩) (by decide +kernel)
theorem km_value {w : World} {h : Heap} {mg mb : Str → Option Value} (ok : (theW w h mg mb).Ok) : FnIs (theW w h mg mb) 169 [13, 10] (scopeS (stAt (bodyS (stAt pw.main.body 16)) 9)) (bodyS (stAt (bodyS (stAt pw.main.body 16)) 9)) := FnIs.ofK ok.kin (by kernel_rfl) (by kernel_rfl) (by kernel_rfl) (by kernel_rfl) (by kernel_rfl) (by kernel_rfl) (by kernel_rfl) (ar2 fun v0 v1 => by kernel_rfl) (by kernel_rfl) (by kernel_rfl) (by kernel_rfl) (by decide) (by intro k hk; simp only [List.mem_cons, List.not_mem_nil, or_false] at hk; rcases hk with rfl | rfl; exact ⟨by decide, (.inl (by kernel_rfl))⟩; exact ⟨by decide, (.inl (by kernel_rfl))⟩) (by decide +kernel)
theorem km_width {w : World} {h : Heap} {mg mb : Str → Option Value} (ok : (theW w h mg mb).Ok) : FnIs (theW w h mg mb) 176 [13, 10] (scopeS (stAt (bodyS (stAt pw.main.body 16)) 10)) (bodyS (stAt (bodyS (stAt pw.main.body 16)) 10)) := FnIs.ofK ok.kin (by kernel_rfl) (by kernel_rfl) (by kernel_rfl) (by kernel_rfl) (by kernel_rfl) (by kernel_rfl) (by kernel_rfl) (ar2 fun v0 v1 => by kernel_rfl) (by kernel_rfl) (by kernel_rfl) (by kernel_rfl) (by decide) (by intro k hk; simp only [List.mem_cons, List.not_mem_nil, or_false] at hk; rcases hk with rfl | rfl; exact ⟨by decide, (.inl (by kernel_rfl))⟩; exact ⟨by decide, (.inl (by kernel_rfl))⟩) (by decide +kernel)
theorem km_holds {w : World} {h : Heap} {mg mb : Str → Option Value} (ok : (theW w h mg mb).Ok) : FnIs (theW w h mg mb) 183 [13, 9] (scopeS (stAt (bodyS (stAt pw.main.body 16)) 11)) (bodyS (stAt (bodyS (stAt pw.main.body 16)) 11)) := FnIs.ofK ok.kin (by kernel_rfl) (by kernel_rfl) (by kernel_rfl) (by kernel_rfl) (by kernel_rfl) (by kernel_rfl) (by kernel_rfl) (ar2 fun v0 v1 => by kernel_rfl) (by kernel_rfl) (by kernel_rfl) (by kernel_rfl) (by decide) (by intro k hk; simp only [List.mem_cons, List.not_mem_nil, or_false] at hk; rcases hk with rfl | rfl; exact ⟨by decide, (.inl (by kernel_rfl))⟩; exact ⟨by decide, (.inl (by kernel_rfl))⟩) (by decide +kernel)
theorem km_enter {w : World} {h : Heap} {mg mb : Str → Option Value} (ok : (theW w h mg mb).Ok) : FnIs (theW w h mg mb) 190 [13, 9, 15, 16] (scopeS (stAt (bodyS (stAt pw.main.body 16)) 12)) (bodyS (stAt (bodyS (stAt pw.main.body 16)) 12)) := FnIs.ofK ok.kin (by kernel_rfl) (by kernel_rfl) (by kernel_rfl) (by kernel_rfl) (by kernel_rfl) (by kernel_rfl) (by kernel_rfl) (ar4 fun v0 v1 v2 v3 => by kernel_rfl) (by kernel_rfl) (by kernel_rfl) (by kernel_rfl) (by decide) (by intro k hk; simp only [List.mem_cons, List.not_mem_nil, or_false] at hk; rcases hk with rfl | rfl | rfl | rfl; exact ⟨by decide, (.inl (by kernel_rfl))⟩; exact ⟨by decide, (.inl (by kernel_rfl))⟩; exact ⟨by decide, (.inl (by kernel_rfl))⟩; exact ⟨by decide, (.inl (by kernel_rfl))⟩) (by decide +kernel)
theorem km_strike {w : World} {h : Heap} {mg mb : Str → Option Value} (ok : (theW w h mg mb).Ok) : FnIs (theW w h mg mb) 197 [13, 9, 15] (scopeS (stAt (bodyS (stAt pw.main.body 16)) 13)) (bodyS (stAt (bodyS (stAt pw.main.body 16)) 13)) := FnIs.ofK ok.kin (by kernel_rfl) (by kernel_rfl) (by kernel_rfl) (by kernel_rfl) (by kernel_rfl) (by kernel_rfl) (by kernel_rfl) (ar3 fun v0 v1 v2 => by kernel_rfl) (by kernel_rfl) (by kernel_rfl) (by kernel_rfl) (by decide) (by intro k hk; simp only [List.mem_cons, List.not_mem_nil, or_false] at hk; rcases hk with rfl | rfl | rfl; exact ⟨by decide, (.inl (by kernel_rfl))⟩; exact ⟨by decide, (.inl (by kernel_rfl))⟩; exact ⟨by decide, (.inl (by kernel_rfl))⟩) (by decide +kernel)
theorem km_decide {w : World} {h : Heap} {mg mb : Str → Option Value} (ok : (theW w h mg mb).Ok) : FnIs (theW w h mg mb) 204 [13, 9] (scopeS (stAt (bodyS (stAt pw.main.body 16)) 14)) (bodyS (stAt (bodyS (stAt pw.main.body 16)) 14)) := FnIs.ofK ok.kin (by kernel_rfl) (by kernel_rfl) (by kernel_rfl) (by kernel_rfl) (by kernel_rfl) (by kernel_rfl) (by kernel_rfl) (ar2 fun v0 v1 => by kernel_rfl) (by kernel_rfl) (by kernel_rfl) (by kernel_rfl) (by decide) (by intro k hk; simp only [List.mem_cons, List.not_mem_nil, or_false] at hk; rcases hk with rfl | rfl; exact ⟨by decide, (.inl (by kernel_rfl))⟩; exact ⟨by decide, (.inl (by kernel_rfl))⟩) (by decide +kernel)
theorem km_push {w : World} {h : Heap} {mg mb : Str → Option Value} (ok : (theW w h mg mb).Ok) : FnIs (theW w h mg mb) 218 [13] (scopeS (stAt (bodyS (stAt pw.main.body 16)) 16)) (bodyS (stAt (bodyS (stAt pw.main.body 16)) 16)) := FnIs.ofK ok.kin (by kernel_rfl) (by kernel_rfl) (by kernel_rfl) (by kernel_rfl) (by kernel_rfl) (by kernel_rfl) (by kernel_rfl) (ar1 fun v0 => by kernel_rfl) (by kernel_rfl) (by kernel_rfl) (by kernel_rfl) (by decide) (by intro k hk; simp only [List.mem_cons, List.not_mem_nil, or_false] at hk; rcases hk with rfl; exact ⟨by decide, (.inl (by kernel_rfl))⟩) (by decide +kernel)
theorem km_pop {w : World} {h : Heap} {mg mb : Str → Option Value} (ok : (theW w h mg mb).Ok) : FnIs (theW w h mg mb) 225 [13, 19] (scopeS (stAt (bodyS (stAt pw.main.body 16)) 17)) (bodyS (stAt (bodyS (stAt pw.main.body 16)) 17)) := FnIs.ofK ok.kin (by kernel_rfl) (by kernel_rfl) (by kernel_rfl) (by kernel_rfl) (by kernel_rfl) (by kernel_rfl) (by kernel_rfl) (ar2 fun v0 v1 => by kernel_rfl) (by kernel_rfl) (by kernel_rfl) (by kernel_rfl) (by decide) (by intro k hk; simp only [List.mem_cons, List.not_mem_nil, or_false] at hk; rcases hk with rfl | rfl; exact ⟨by decide, (.inl (by kernel_rfl))⟩; exact ⟨by decide, (.inl (by kernel_rfl))⟩) (by decide +kernel)
theorem km_depth {w : World} {h : Heap} {mg mb : Str → Option Value} (ok : (theW w h mg mb).Ok) : FnIs (theW w h mg mb) 232 [13] (scopeS (stAt (bodyS (stAt pw.main.body 16)) 18)) (bodyS (stAt (bodyS (stAt pw.main.body 16)) 18)) := FnIs.ofK ok.kin (by kernel_rfl) (by kernel_rfl) (by kernel_rfl) (by kernel_rfl) (by kernel_rfl) (by kernel_rfl) (by kernel_rfl) (ar1 fun v0 => by kernel_rfl) (by kernel_rfl) (by kernel_rfl) (by kernel_rfl) (by decide) (by intro k hk; simp only [List.mem_cons, List.not_mem_nil, or_false] at hk; rcases hk with rfl; exact ⟨by decide, (.inl (by kernel_rfl))⟩) (by decide +kernel)
theorem km_changed {w : World} {h : Heap} {mg mb : Str → Option Value} (ok : (theW w h mg mb).Ok) : FnIs (theW w h mg mb) 239 [13] (scopeS (stAt (bodyS (stAt pw.main.body 16)) 19)) (bodyS (stAt (bodyS (stAt pw.main.body 16)) 19)) := FnIs.ofK ok.kin (by kernel_rfl) (by kernel_rfl) (by kernel_rfl) (by kernel_rfl) (by kernel_rfl) (by kernel_rfl) (by kernel_rfl) (ar1 fun v0 => by kernel_rfl) (by kernel_rfl) (by kernel_rfl) (by kernel_rfl) (by decide) (by intro k hk; simp only [List.mem_cons, List.not_mem_nil, or_false] at hk; rcases hk with rfl; exact ⟨by decide, (.inl (by kernel_rfl))⟩) (by decide +kernel)
theorem kf_law_draw {w : World} {h : Heap} {mg mb : Str → Option Value} (ok : (theW w h mg mb).Ok) : FnIs (theW w h mg mb) 253 [22, 23] (scopeS (stAt pw.main.body 18)) (bodyS (stAt pw.main.body 18)) := FnIs.ofK ok.kin (by kernel_rfl) (by kernel_rfl) (by kernel_rfl) (by kernel_rfl) (by kernel_rfl) (by kernel_rfl) (by kernel_rfl) (ar2 fun v0 v1 => by kernel_rfl) (by kernel_rfl) (by kernel_rfl) (by kernel_rfl) (by decide) (by intro k hk; simp only [List.mem_cons, List.not_mem_nil, or_false] at hk; rcases hk with rfl | rfl; exact ⟨by decide, (.inl (by kernel_rfl))⟩; exact ⟨by decide, (.inl (by kernel_rfl))⟩) (by decide +kernel)
theorem kf_law_ranges {w : World} {h : Heap} {mg mb : Str → Option Value} (ok : (theW w h mg mb).Ok) : FnIs (theW w h mg mb) 260 [24] (scopeS (stAt pw.main.body 19)) (bodyS (stAt pw.main.body 19)) := FnIs.ofK ok.kin (by kernel_rfl) (by kernel_rfl) (by kernel_rfl) (by kernel_rfl) (by kernel_rfl) (by kernel_rfl) (by kernel_rfl) (ar1 fun v0 => by kernel_rfl) (by kernel_rfl) (by kernel_rfl) (by kernel_rfl) (by decide) (by intro k hk; simp only [List.mem_cons, List.not_mem_nil, or_false] at hk; rcases hk with rfl; exact ⟨by decide, (.inl (by kernel_rfl))⟩) (by decide +kernel)
theorem kf_law_keeps {w : World} {h : Heap} {mg mb : Str → Option Value} (ok : (theW w h mg mb).Ok) : FnIs (theW w h mg mb) 267 [1, 11, 4] (scopeS (stAt pw.main.body 20)) (bodyS (stAt pw.main.body 20)) := FnIs.ofK ok.kin (by kernel_rfl) (by kernel_rfl) (by kernel_rfl) (by kernel_rfl) (by kernel_rfl) (by kernel_rfl) (by kernel_rfl) (ar3 fun v0 v1 v2 => by kernel_rfl) (by kernel_rfl) (by kernel_rfl) (by kernel_rfl) (by decide) (by intro k hk; simp only [List.mem_cons, List.not_mem_nil, or_false] at hk; rcases hk with rfl | rfl | rfl; exact ⟨by decide, (.inl (by kernel_rfl))⟩; exact ⟨by decide, (.inl (by kernel_rfl))⟩; exact ⟨by decide, (.inl (by kernel_rfl))⟩) (by decide +kernel)
theorem kf_law_against {w : World} {h : Heap} {mg mb : Str → Option Value} (ok : (theW w h mg mb).Ok) : FnIs (theW w h mg mb) 274 [9] (scopeS (stAt pw.main.body 21)) (bodyS (stAt pw.main.body 21)) := FnIs.ofK ok.kin (by kernel_rfl) (by kernel_rfl) (by kernel_rfl) (by kernel_rfl) (by kernel_rfl) (by kernel_rfl) (by kernel_rfl) (ar1 fun v0 => by kernel_rfl) (by kernel_rfl) (by kernel_rfl) (by kernel_rfl) (by decide) (by intro k hk; simp only [List.mem_cons, List.not_mem_nil, or_false] at hk; rcases hk with rfl; exact ⟨by decide, (.inl (by kernel_rfl))⟩) (by decide +kernel)
theorem kf_law_literal {w : World} {h : Heap} {mg mb : Str → Option Value} (ok : (theW w h mg mb).Ok) : FnIs (theW w h mg mb) 281 [22, 23] (scopeS (stAt pw.main.body 22)) (bodyS (stAt pw.main.body 22)) := FnIs.ofK ok.kin (by kernel_rfl) (by kernel_rfl) (by kernel_rfl) (by kernel_rfl) (by kernel_rfl) (by kernel_rfl) (by kernel_rfl) (ar2 fun v0 v1 => by kernel_rfl) (by kernel_rfl) (by kernel_rfl) (by kernel_rfl) (by decide) (by intro k hk; simp only [List.mem_cons, List.not_mem_nil, or_false] at hk; rcases hk with rfl | rfl; exact ⟨by decide, (.inl (by kernel_rfl))⟩; exact ⟨by decide, (.inl (by kernel_rfl))⟩) (by decide +kernel)
theorem kf_law_numbers {w : World} {h : Heap} {mg mb : Str → Option Value} (ok : (theW w h mg mb).Ok) : FnIs (theW w h mg mb) 286 [22] (scopeS (stAt pw.main.body 23)) (bodyS (stAt pw.main.body 23)) := FnIs.ofK ok.kin (by kernel_rfl) (by kernel_rfl) (by kernel_rfl) (by kernel_rfl) (by kernel_rfl) (by kernel_rfl) (by kernel_rfl) (ar1 fun v0 => by kernel_rfl) (by kernel_rfl) (by kernel_rfl) (by kernel_rfl) (by decide) (by intro k hk; simp only [List.mem_cons, List.not_mem_nil, or_false] at hk; rcases hk with rfl; exact ⟨by decide, (.inl (by kernel_rfl))⟩) (by decide +kernel)
theorem kf_law_said {w : World} {h : Heap} {mg mb : Str → Option Value} (ok : (theW w h mg mb).Ok) : FnIs (theW w h mg mb) 291 [27, 9] (scopeS (stAt pw.main.body 24)) (bodyS (stAt pw.main.body 24)) := FnIs.ofK ok.kin (by kernel_rfl) (by kernel_rfl) (by kernel_rfl) (by kernel_rfl) (by kernel_rfl) (by kernel_rfl) (by kernel_rfl) (ar2 fun v0 v1 => by kernel_rfl) (by kernel_rfl) (by kernel_rfl) (by kernel_rfl) (by decide) (by intro k hk; simp only [List.mem_cons, List.not_mem_nil, or_false] at hk; rcases hk with rfl | rfl; exact ⟨by decide, (.inl (by kernel_rfl))⟩; exact ⟨by decide, (.inr (by kernel_rfl))⟩) (by decide +kernel)
theorem kf_law_struck {w : World} {h : Heap} {mg mb : Str → Option Value} (ok : (theW w h mg mb).Ok) : FnIs (theW w h mg mb) 296 [29, 9, 15, 16] (scopeS (stAt pw.main.body 25)) (bodyS (stAt pw.main.body 25)) := FnIs.ofK ok.kin (by kernel_rfl) (by kernel_rfl) (by kernel_rfl) (by kernel_rfl) (by kernel_rfl) (by kernel_rfl) (by kernel_rfl) (ar4 fun v0 v1 v2 v3 => by kernel_rfl) (by kernel_rfl) (by kernel_rfl) (by kernel_rfl) (by decide) (by intro k hk; simp only [List.mem_cons, List.not_mem_nil, or_false] at hk; rcases hk with rfl | rfl | rfl | rfl; exact ⟨by decide, (.inl (by kernel_rfl))⟩; exact ⟨by decide, (.inr (by kernel_rfl))⟩; exact ⟨by decide, (.inl (by kernel_rfl))⟩; exact ⟨by decide, (.inl (by kernel_rfl))⟩) (by decide +kernel)
theorem kf_law_is_seen {w : World} {h : Heap} {mg mb : Str → Option Value} (ok : (theW w h mg mb).Ok) : FnIs (theW w h mg mb) 301 [28, 29, 30] (scopeS (stAt pw.main.body 26)) (bodyS (stAt pw.main.body 26)) := FnIs.ofK ok.kin (by kernel_rfl) (by kernel_rfl) (by kernel_rfl) (by kernel_rfl) (by kernel_rfl) (by kernel_rfl) (by kernel_rfl) (ar3 fun v0 v1 v2 => by kernel_rfl) (by kernel_rfl) (by kernel_rfl) (by kernel_rfl) (by decide) (by intro k hk; simp only [List.mem_cons, List.not_mem_nil, or_false] at hk; rcases hk with rfl | rfl | rfl; exact ⟨by decide, (.inr (by kernel_rfl))⟩; exact ⟨by decide, (.inl (by kernel_rfl))⟩; exact ⟨by decide, (.inl (by kernel_rfl))⟩) (by decide +kernel)
theorem kf_law_begun {w : World} {h : Heap} {mg mb : Str → Option Value} (ok : (theW w h mg mb).Ok) : FnIs (theW w h mg mb) 308 [28, 29] (scopeS (stAt pw.main.body 27)) (bodyS (stAt pw.main.body 27)) := FnIs.ofK ok.kin (by kernel_rfl) (by kernel_rfl) (by kernel_rfl) (by kernel_rfl) (by kernel_rfl) (by kernel_rfl) (by kernel_rfl) (ar2 fun v0 v1 => by kernel_rfl) (by kernel_rfl) (by kernel_rfl) (by kernel_rfl) (by decide) (by intro k hk; simp only [List.mem_cons, List.not_mem_nil, or_false] at hk; rcases hk with rfl | rfl; exact ⟨by decide, (.inl (by kernel_rfl))⟩; exact ⟨by decide, (.inl (by kernel_rfl))⟩) (by decide +kernel)
theorem kf_law_taken_back {w : World} {h : Heap} {mg mb : Str → Option Value} (ok : (theW w h mg mb).Ok) : FnIs (theW w h mg mb) 315 [28, 29, 23] (scopeS (stAt pw.main.body 28)) (bodyS (stAt pw.main.body 28)) := FnIs.ofK ok.kin (by kernel_rfl) (by kernel_rfl) (by kernel_rfl) (by kernel_rfl) (by kernel_rfl) (by kernel_rfl) (by kernel_rfl) (ar3 fun v0 v1 v2 => by kernel_rfl) (by kernel_rfl) (by kernel_rfl) (by kernel_rfl) (by decide) (by intro k hk; simp only [List.mem_cons, List.not_mem_nil, or_false] at hk; rcases hk with rfl | rfl | rfl; exact ⟨by decide, (.inl (by kernel_rfl))⟩; exact ⟨by decide, (.inl (by kernel_rfl))⟩; exact ⟨by decide, (.inl (by kernel_rfl))⟩) (by decide +kernel)
theorem kf_law_deed {w : World} {h : Heap} {mg mb : Str → Option Value} (ok : (theW w h mg mb).Ok) : FnIs (theW w h mg mb) 320 [22, 28, 29, 23] (scopeS (stAt pw.main.body 29)) (bodyS (stAt pw.main.body 29)) := FnIs.ofK ok.kin (by kernel_rfl) (by kernel_rfl) (by kernel_rfl) (by kernel_rfl) (by kernel_rfl) (by kernel_rfl) (by kernel_rfl) (ar4 fun v0 v1 v2 v3 => by kernel_rfl) (by kernel_rfl) (by kernel_rfl) (by kernel_rfl) (by decide) (by intro k hk; simp only [List.mem_cons, List.not_mem_nil, or_false] at hk; rcases hk with rfl | rfl | rfl | rfl; exact ⟨by decide, (.inr (by kernel_rfl))⟩; exact ⟨by decide, (.inl (by kernel_rfl))⟩; exact ⟨by decide, (.inl (by kernel_rfl))⟩; exact ⟨by decide, (.inr (by kernel_rfl))⟩) (by decide +kernel)
theorem kf_law {w : World} {h : Heap} {mg mb : Str → Option Value} (ok : (theW w h mg mb).Ok) : FnIs (theW w h mg mb) 325 [33] (scopeS (stAt pw.main.body 30)) (bodyS (stAt pw.main.body 30)) := FnIs.ofK ok.kin (by kernel_rfl) (by kernel_rfl) (by kernel_rfl) (by kernel_rfl) (by kernel_rfl) (by kernel_rfl) (by kernel_rfl) (ar1 fun v0 => by kernel_rfl) (by kernel_rfl) (by kernel_rfl) (by kernel_rfl) (by decide) (by intro k hk; simp only [List.mem_cons, List.not_mem_nil, or_false] at hk; rcases hk with rfl; exact ⟨by decide, (.inl (by kernel_rfl))⟩) (by decide +kernel)
theorem topOk {w : World} {h : Heap} {mg mb : Str → Option Value} (ok : (theW w h mg mb).Ok) : TopOk (theW w h mg mb) where
  ok := ok
  co := clsOk w h mg mb
  if_least := kf_least ok
  if_greatest := kf_greatest ok
  if_size := kf_size ok
  if_next_from := kf_next_from ok
  if_has := kf_has ok
  if_up_to := kf_up_to ok
  if_from_on := kf_from_on ok
  if_without := kf_without ok
  if_meet := kf_meet ok
  if_negation := kf_negation ok
  if_struck := kf_struck ok
  if_said_of := kf_said_of ok
  im__init__ := km__init__ ok
  nm__init__ := by kernel_rfl
  tm__init__ := by kernel_rfl
  im_fail := km_fail ok
  nm_fail := by kernel_rfl
  tm_fail := by kernel_rfl
  im_new_var := km_new_var ok
  nm_new_var := by kernel_rfl
  tm_new_var := by kernel_rfl
  im_size := km_size ok
  nm_size := by kernel_rfl
  tm_size := by kernel_rfl
  im_dom := km_dom ok
  nm_dom := by kernel_rfl
  tm_dom := by kernel_rfl
  im_initial := km_initial ok
  nm_initial := by kernel_rfl
  tm_initial := by kernel_rfl
  im_low := km_low ok
  nm_low := by kernel_rfl
  tm_low := by kernel_rfl
  im_high := km_high ok
  nm_high := by kernel_rfl
  tm_high := by kernel_rfl
  im_has := km_has ok
  nm_has := by kernel_rfl
  tm_has := by kernel_rfl
  im_is_fixed := km_is_fixed ok
  nm_is_fixed := by kernel_rfl
  tm_is_fixed := by kernel_rfl
  im_value := km_value ok
  nm_value := by kernel_rfl
  tm_value := by kernel_rfl
  im_width := km_width ok
  nm_width := by kernel_rfl
  tm_width := by kernel_rfl
  im_holds := km_holds ok
  nm_holds := by kernel_rfl
  tm_holds := by kernel_rfl
  im_enter := km_enter ok
  nm_enter := by kernel_rfl
  tm_enter := by kernel_rfl
  im_strike := km_strike ok
  nm_strike := by kernel_rfl
  tm_strike := by kernel_rfl
  im_decide := km_decide ok
  nm_decide := by kernel_rfl
  tm_decide := by kernel_rfl
  im_push := km_push ok
  nm_push := by kernel_rfl
  tm_push := by kernel_rfl
  im_pop := km_pop ok
  nm_pop := by kernel_rfl
  tm_pop := by kernel_rfl
  im_depth := km_depth ok
  nm_depth := by kernel_rfl
  tm_depth := by kernel_rfl
  im_changed := km_changed ok
  nm_changed := by kernel_rfl
  tm_changed := by kernel_rfl
  if_law_draw := kf_law_draw ok
  if_law_ranges := kf_law_ranges ok
  if_law_keeps := kf_law_keeps ok
  if_law_against := kf_law_against ok
  if_law_literal := kf_law_literal ok
  if_law_numbers := kf_law_numbers ok
  if_law_said := kf_law_said ok
  if_law_struck := kf_law_struck ok
  if_law_is_seen := kf_law_is_seen ok
  if_law_begun := kf_law_begun ok
  if_law_taken_back := kf_law_taken_back ok
  if_law_deed := kf_law_deed ok
  if_law := kf_law ok
  a_clash := by kernel_rfl
  a_domains := by kernel_rfl
  a_firsts := by kernel_rfl
  a_is_failed := by kernel_rfl
  a_marks := by kernel_rfl
  a_news := by kernel_rfl
  a_speaker := by kernel_rfl
  a_trail := by kernel_rfl
  g_least := GName.ofK ok.kin ok.g (by kernel_rfl)
  g_greatest := GName.ofK ok.kin ok.g (by kernel_rfl)
  g_size := GName.ofK ok.kin ok.g (by kernel_rfl)
  g_next_from := GName.ofK ok.kin ok.g (by kernel_rfl)
  g_has := GName.ofK ok.kin ok.g (by kernel_rfl)
  g_up_to := GName.ofK ok.kin ok.g (by kernel_rfl)
  g_from_on := GName.ofK ok.kin ok.g (by kernel_rfl)
  g_without := GName.ofK ok.kin ok.g (by kernel_rfl)
  g_meet := GName.ofK ok.kin ok.g (by kernel_rfl)
  g_negation := GName.ofK ok.kin ok.g (by kernel_rfl)
  g_struck := GName.ofK ok.kin ok.g (by kernel_rfl)
  g_said_of := GName.ofK ok.kin ok.g (by kernel_rfl)
  g_law_draw := GName.ofK ok.kin ok.g (by kernel_rfl)
  g_law_ranges := GName.ofK ok.kin ok.g (by kernel_rfl)
  g_law_keeps := GName.ofK ok.kin ok.g (by kernel_rfl)
  g_law_against := GName.ofK ok.kin ok.g (by kernel_rfl)
  g_law_literal := GName.ofK ok.kin ok.g (by kernel_rfl)
  g_law_numbers := GName.ofK ok.kin ok.g (by kernel_rfl)
  g_law_said := GName.ofK ok.kin ok.g (by kernel_rfl)
  g_law_struck := GName.ofK ok.kin ok.g (by kernel_rfl)
  g_law_is_seen := GName.ofK ok.kin ok.g (by kernel_rfl)
  g_law_begun := GName.ofK ok.kin ok.g (by kernel_rfl)
  g_law_taken_back := GName.ofK ok.kin ok.g (by kernel_rfl)
  g_law_deed := GName.ofK ok.kin ok.g (by kernel_rfl)
  g_law := GName.ofK ok.kin ok.g (by kernel_rfl)
  g_size_domains := GName.ofK ok.kin ok.g (by kernel_rfl)
  g_has_domains := GName.ofK ok.kin ok.g (by kernel_rfl)
  g_Store := GName.ofK ok.kin ok.g (by kernel_rfl)
  k_Store := by kernel_rfl
  mk_Store := by kernel_rfl
  g_abs := GName.ofB ok.kin ok.g ok.boot (by kernel_rfl) (by decide +kernel) (by kernel_rfl)
  g_len := GName.ofB ok.kin ok.g ok.boot (by kernel_rfl) (by decide +kernel) (by kernel_rfl)
  g_tuple := GName.ofB ok.kin ok.g ok.boot (by kernel_rfl) (by decide +kernel) (by kernel_rfl)
  g_sum := GName.ofB ok.kin ok.g ok.boot (by kernel_rfl) (by decide +kernel) (by kernel_rfl)
  g_max := GName.ofB ok.kin ok.g ok.boot (by kernel_rfl) (by decide +kernel) (by kernel_rfl)
  g_min := GName.ofB ok.kin ok.g ok.boot (by kernel_rfl) (by decide +kernel) (by kernel_rfl)
  g_range := GName.ofB ok.kin ok.g ok.boot (by kernel_rfl) (by decide +kernel) (by kernel_rfl)
  g_list := GName.ofB ok.kin ok.g ok.boot (by kernel_rfl) (by decide +kernel) (by kernel_rfl)
  g_sorted := GName.ofB ok.kin ok.g ok.boot (by kernel_rfl) (by decide +kernel) (by kernel_rfl)
  g_set := GName.ofB ok.kin ok.g ok.boot (by kernel_rfl) (by decide +kernel) (by kernel_rfl)
  g_isinstance := GName.ofB ok.kin ok.g ok.boot (by kernel_rfl) (by decide +kernel) (by kernel_rfl)
  g_bool := GName.ofB ok.kin ok.g ok.boot (by kernel_rfl) (by decide +kernel) (by kernel_rfl)
end Mine
end
section
namespace Mine
open PySem PySem.W PyProof.Rows
set_option maxRecDepth 1000000
theorem ownHead {d : DefRec} {kwd : List (Str × Expr)} (hdef : defOf qv lawL.row.name = some (d, kwd)) (hp : lawL.row.toRowW.prog.theDef lawL.row.name = some (d.params, d.body, d.scope)) (hk : kwWritten? d.params.kwonlyargs d.params.kw_defaults = some kwd)
    (hc : WalkO qv qLoose (XL qv []) lawH.says lawL.row.toRowW d kwd fun f vs => PySem.call f vs) : lawL.Holds := by
  refine holds_law said0 fun said => ?_
  refine holds_open (q := qv) (loose := qLoose) (Xt := fun s => xlAt qv [] s && recOk (RowW.records lawL.row.toRowW) s) (XP := XL qv []) (Yf := lawH.obs) (Ya := lawH.val) (YP := lawH.says) (N := 3372) left0 lawH.of lawH.keeps (fun s e => xl_of s (Bool.and_eq_true_iff.mp e).1) XL.keeps hdef hp hk (fun s e => recFacts_of (Bool.and_eq_true_iff.mp e).2) rfl said (by kernel_rfl) ⟨rfl, rfl, rfl, rfl, rfl, by decide +kernel⟩ ?_ hc
  w_witness2
end Mine
end
open PySem PySem.W PyProof.Rows
set_option maxRecDepth 100000 in
set_option maxHeartbeats 8000000 in
theorem PySem.Challenge.cw_no0305_01_holds : PySem.Challenge.rw_no0305_01.Holds := by
  refine Mine.ownHead (by rfl) (by rfl) (by rfl) ?_
  intro w s₀ s₁ mg mb G Y fa o pm cd doc dV kV ho hd hcd hD hmg hg args vals as hpre hlay hrd hwl hlo
  have KX := kIn_of Y
  have X := (Ground.X G).1
  have V := (Ground.X G).2
  refine Ground.open G ?_
  intro T B D TE TW
  try (refine guard_noD D (by decide +kernel) ?_; clear D)
  obtain ⟨_, _, M⟩ := bmod_of_top T
  have TA := at_of_top T
  try (obtain ⟨_, _, he, B0⟩ := based_of_top T rfl hmg ho hd; have he' : cd = _ := he; subst he'; clear he)
  clear hmg
  wrow_args hpre hlay hrd hwl hlo
  all_goals (
    refine enter_call ?_
    w_top on
    try refine codeAny_mono ?_ (fun _ _ g => GoodW.toG g)
    have K0 := below_caller (Top.heap T)
    w_call any ho hd hcd hD T F
    clear hd TA
    k_drop)
  all_goals (
    rename_i ns _ _ _ _ _ _ _ _ _ _ _ _ w1 _ _ _ hc _ h₁ tk₁ _ _ _ _ N0 X0
    obtain ⟨st', hp⟩ := Mine.Pure.law_pure ns (by omega)
    refine Mine.law_run (W := Mine.theW w s₁.heap mg mb) (Mine.topOk (Mine.wOk KX T.g T.b T.nolimit T.builtins (T.seer (by kernel_rfl)))) (ns := ns) rfl ?_ rfl rfl rfl ?_ w1 F X0 ?_ ?_ hp ?_
    · kernel_rfl
    · kernel_rfl
    · exact fun p hp => (N0 p hp).1
    · exact ⟨rfl, by show callerA.depth + 1 + 7 < recursionLimit; decide, by show callerA.units + 3 + 4 * 7 + 100 < cLine; decide⟩
    · rintro s' ⟨h', tk', rfl⟩ hk
      exact ⟨.inl ⟨_, .bool true, [], rfl, by intro cls; kernel_rfl, .bool true, by kernel_rfl, fun hu => ⟨List.nodup_nil, fun a ha => nomatch ha⟩⟩, hk, rfl, hg⟩)
