import PyProof.Rows.All
import PyProof.P3Statements
import PyProof.CompFree
import PyProof.WalksMore
import PyProof.WalksPairs
import PyProof.RulesTry
import PyProof.StationsW
import PyProof.Rows.Frame
import PyProof.Rows.News
import PyProof.Rows.Globals
import PyProof.Rows.StrRules
import PyProof.Rows.Lst
import PyProof.Rows.Tup
import PyProof.Rows.StrTemp
import PyProof.Rows.RuleB_pow
import PyProof.Rows.RuleB_floordiv
import PyProof.Rows.IntOr
import PyProof.Rows.ListMulArg
import PyProof.Cells
import PyProof.SliceList
import PyProof.DictCalls
import PyProof.PureInt
import PyProof.StrBlockL
import PyProof.StrBlock2
import PyProof.StrCalls2
import PyProof.StrCalls3
import PyProof.SliceStr2
import PyProof.CallStr
import PyProof.CallFns
import PyProof.Rows.StrBin
import PyProof.Rows.SeqMore
import PyProof.Rows.SumAny
import PyProof.Rows.EqDataRows
import PyProof.Rows.InDataRows
import PyProof.ListTruth
import PyProof.ListCopy
import PyProof.FString5
import PyProof.IsRules
import PyProof.DictStraight
import PyProof.Truth
import PyProof.Rows.RuleC_bool
import PyProof.Rows.RuleC_int
import PyProof.Rows.RuleN_abs
import PyProof.ListIndexNeg
import PyProof.P3In
import PyProof.Rows.Nodes
import PyProof.SliceMore
import PyProof.DictIter
import PyProof.TypeOfCall
import PyProof.SeqI3
import PyProof.RangeFor
import PyProof.Rows.Range3
import PyProof.DictWalks
import PyProof.Rows.Exc
import PyProof.Rows.Chain
import PyProof.PvWalk
import PyProof.Rows.PlainStore
import PyProof.PassesOwn
import PyProof.ForAny
import PyProof.RulesRaise
import PyProof.Rows.Catch
import PyProof.ForAppend
import PyProof.ExcFactsAll.ValueError
import PyProof.ExcAttrAll.ValueError
import PyProof.P3Eq
import Wide.All
import Open.Line
import PySem.Challenge.RW_sx_r092_1o
set_option Elab.async false
set_option linter.all false
set_option genInjectivity false
set_option genSizeOf false
set_option bootstrap.genMatcherCode false
set_option backward.match.sparseCases false
set_option backward.eqns.nonrecursive false
section
open PySem
namespace Mine
set_option tactic.hygienic false
set_option genCtorIdx false in
inductive AV where
  | none
  | bool (b : Bool)
  | int (i : Int)
  | str (s : List Nat)
  | ilist (xs : List Int)
  | list (xs : List AV)
  | tup (xs : List AV)
  | dict (es : List (Int × Int))
noncomputable abbrev AV.ctorIdx (x : AV) : Nat := @AV.casesOn (fun _ => Nat) x 0 (fun _ => 1) (fun _ => 2) (fun _ => 3) (fun _ => 4) (fun _ => 5) (fun _ => 6) (fun _ => 7)
set_option genCtorIdx false in
inductive Res where
  | val (v : AV)
  | exc
noncomputable abbrev Res.ctorIdx (x : Res) : Nat := @Res.casesOn (fun _ => Nat) x (fun _ => 0) 1
inductive BOp where
  | add | sub | mul | fdiv | mod | pow
  deriving DecidableEq
inductive COp where
  | eq | ne | lt | le | gt | ge | isIn | notIn | isNone | isNotNone | isNotBool
  deriving DecidableEq
inductive F1 where
  | len | abs | list | sum | str | ord
  deriving DecidableEq
set_option genCtorIdx false in
inductive ME where
  | nil
  | cons (a b : ME)
  | lit (v : AV)
  | var (i : Nat)
  | rd (i : Nat)
  | glob (x : Str)
  | bin (op : BOp) (a b : ME)
  | neg (a : ME)
  | not (a : ME)
  | and (a b : ME)
  | or (a b : ME)
  | cmp (op : COp) (a b : ME)
  | chain (o1 o2 : COp) (a b c : ME)
  | isType (t : String) (a : ME)
  | call (f : Nat) (args : ME)
  | f1 (f : F1) (a : ME)
  | idx (a i : ME)
  | sliceTo (a n : ME)
  | sliceFrom (a n : ME)
  | list (args : ME)
  | tup (args : ME)
  | dict0
  | join (a b : ME)
  | get (d k v : ME)
  | comp (elt : ME) (tgt : Nat) (it : ME) (ifs : ME)
  | range (a b c : ME)
noncomputable abbrev ME.ctorIdx (x : ME) : Nat := @ME.casesOn (fun _ => Nat) x 0 (fun _ _ => 1) (fun _ => 2) (fun _ => 3) (fun _ => 4) (fun _ => 5) (fun _ _ _ => 6) (fun _ => 7) (fun _ => 8) (fun _ _ => 9) (fun _ _ => 10) (fun _ _ _ => 11) (fun _ _ _ _ _ => 12) (fun _ _ => 13) (fun _ _ => 14) (fun _ _ => 15) (fun _ _ => 16) (fun _ _ => 17) (fun _ _ => 18) (fun _ => 19) (fun _ => 20) 21 (fun _ _ => 22) (fun _ _ _ => 23) (fun _ _ _ _ => 24) (fun _ _ _ => 25)
set_option genCtorIdx false in
inductive MS where
  | skip
  | seq (a b : MS)
  | fz (i : Nat) (a : MS)
  | assign (i : Nat) (m : ME)
  | assignF (i : Nat) (m : ME)
  | assignL (i : Nat) (args : ME)
  | store (i : Nat) (k v : ME)
  | append (i : Nat) (m : ME)
  | ite (c : ME) (a b : MS)
  | while (c : ME) (b : MS)
  | for (tgt : List Nat) (it : ME) (b : MS)
  | ret (m : ME)
  | raise
  | tryA (t : Option Nat) (f : Nat) (args : ME) (j : Nat) (b : Bool)
  | brk
  | cont
noncomputable abbrev MS.ctorIdx (x : MS) : Nat := @MS.casesOn (fun _ => Nat) x 0 (fun _ _ => 1) (fun _ _ => 2) (fun _ _ => 3) (fun _ _ => 4) (fun _ _ => 5) (fun _ _ _ => 6) (fun _ _ => 7) (fun _ _ _ => 8) (fun _ _ => 9) (fun _ _ _ => 10) (fun _ => 11) 12 (fun _ _ _ _ _ => 13) 14 15
abbrev St := List (Option (Bool × AV))
noncomputable def LIM : Nat := 1048576
noncomputable def getI {α : Type} (xs : List α) (i : Int) : Option α :=
  if 0 ≤ i then xs[i.toNat]? else if -(xs.length : Int) ≤ i then xs[((xs.length : Int) + i).toNat]? else none
noncomputable def Bd (x y : Int) : Bool := !(decide (Builtin.Int.intBits x > shortFactorBits) && decide (Builtin.Int.intBits y > shortFactorBits) && Builtin.Int.intTooBig ((Builtin.Int.intBits x : Int) + (Builtin.Int.intBits y : Int)))
noncomputable def Ff : AV → Option (List AV)
  | .ilist xs => some (xs.map .int)
  | .list xs => some xs
  | .tup xs => some xs
  | .dict es => some (es.map fun e => .int e.1)
  | _ => none
noncomputable def Hk : List AV → Option (List Int)
  | [] => some []
  | .int i :: r => (Hk r).map (i :: ·)
  | _ => none
noncomputable def mkL (xs : List AV) : AV := match Hk xs with
  | some is => .ilist is
  | none => .list xs
mutual
noncomputable def okA : Nat → AV → Bool
  | _, .none => true
  | _, .bool _ => true
  | _, .int _ => true
  | n, .ilist _ => decide (1 ≤ n)
  | n, .list xs => decide (1 ≤ n) && okAs (n - 1) xs
  | n, .tup xs => decide (1 ≤ n) && okAs (n - 1) xs
  | _, .str _ => false
  | _, .dict _ => false
noncomputable def okAs : Nat → List AV → Bool
  | _, [] => true
  | n, x :: r => okA n x && okAs n r
end
mutual
noncomputable def toD : AV → PyData
  | .none => .none
  | .bool b => .bool b
  | .int i => .int i
  | .str s => .str ⟨s.toArray⟩
  | .ilist xs => .list (xs.map .int)
  | .list xs => .list (toDs xs)
  | .tup xs => .tuple (toDs xs)
  | .dict _ => .none
noncomputable def toDs : List AV → List PyData
  | [] => []
  | x :: r => toD x :: toDs r
end
noncomputable def eqAV : AV → AV → Option Bool
  | .int a, .int b => some (a == b)
  | .bool a, .bool b => some (a == b)
  | .str a, .str b => some (a == b)
  | .ilist a, .ilist b => some (a == b)
  | a, b => if okA 60 a && okA 60 b then some (PyData.eqv (toD a) (toD b)) else none
noncomputable def inAV (x : AV) (ys : List AV) : Option Bool :=
  if okA 60 x && okAs 60 ys then some ((toDs ys).any fun y => PyData.eqv y (toD x)) else none
noncomputable def Aa : AV → Option Bool
  | .none => some false
  | .bool b => some b
  | .int i => some (i != 0)
  | .str s => some (!s.isEmpty)
  | .ilist xs => some (!xs.isEmpty)
  | .list xs => some (!xs.isEmpty)
  | _ => none
noncomputable def An (i : Int) : List Nat := (Str.ofString (toString i)).cps.toList
noncomputable def Fy : List Nat → List Nat → Bool
  | _, [] => false
  | [], _ :: _ => true
  | a :: r, b :: t => if a < b then true else if b < a then false else Fy r t
noncomputable def Ab (op : BOp) (x y : AV) : Option AV := match op with
  | .add => (match x, y with
    | .int a, .int b => some (.int (a + b))
    | .str a, .str b => if a.length + b.length ≤ LIM then some (.str (a ++ b)) else none
    | .ilist a, .ilist b => if a.length + b.length ≤ LIM then some (.ilist (a ++ b)) else none
    | .list a, .list b => if a.length + b.length ≤ LIM then some (.list (a ++ b)) else none
    | .ilist a, .list b => if a.length + b.length ≤ LIM then some (.list (a.map .int ++ b)) else none
    | .list a, .ilist b => if a.length + b.length ≤ LIM then some (.list (a ++ b.map .int)) else none
    | _, _ => none)
  | .sub => (match x, y with | .int a, .int b => some (.int (a - b)) | _, _ => none)
  | .mul => (match x, y with
    | .int a, .int b => if Bd a b then some (.int (a * b)) else none
    | .str a, .int b => if 0 ≤ b ∧ b ≤ LIM ∧ a.length * b.toNat ≤ LIM then some (.str (List.replicate b.toNat a).flatten) else none
    | .ilist a, .int b => if 0 ≤ b ∧ b ≤ LIM ∧ a.length * b.toNat ≤ LIM then some (.ilist (List.replicate b.toNat a).flatten) else none
    | .list a, .int b => if 0 ≤ b ∧ b ≤ LIM ∧ a.length * b.toNat ≤ LIM then some (.list (List.replicate b.toNat a).flatten) else none
    | _, _ => none)
  | .fdiv => (match x, y with | .int a, .int b => if b = 0 then none else some (.int (a.fdiv b)) | _, _ => none)
  | .mod => (match x, y with | .int a, .int b => if b = 0 then none else some (.int (a.fmod b)) | _, _ => none)
  | .pow => (match x, y with | .int a, .int b => if 0 ≤ b ∧ (Builtin.Int.intBits a : Int) * b ≤ 2 ^ 27 then some (.int (a ^ b.toNat)) else none | _, _ => none)
noncomputable def Ad (op : COp) (x y : AV) : Option Bool := match op with
  | .eq => eqAV x y
  | .ne => (eqAV x y).map (!·)
  | .lt => (match x, y with | .int a, .int b => some (decide (a < b)) | .str a, .str b => some (Fy a b) | _, _ => none)
  | .le => (match x, y with | .int a, .int b => some (decide (a ≤ b)) | .str a, .str b => some (!Fy b a) | _, _ => none)
  | .gt => (match x, y with | .int a, .int b => some (decide (a > b)) | .str a, .str b => some (Fy b a) | _, _ => none)
  | .ge => (match x, y with | .int a, .int b => some (decide (a ≥ b)) | .str a, .str b => some (!Fy a b) | _, _ => none)
  | .isIn => (match y with | .tup b => inAV x b | .list b => inAV x b | .ilist b => inAV x (b.map .int) | _ => none)
  | .notIn => (match y with | .tup b => (inAV x b).map (!·) | .list b => (inAV x b).map (!·) | .ilist b => (inAV x (b.map .int)).map (!·) | _ => none)
  | .isNone => (match x with | .none => some true | _ => some false)
  | .isNotNone => (match x with | .none => some false | _ => some true)
  | .isNotBool => (match x, y with | .bool a, .bool b => some (a != b) | _, _ => none)
noncomputable def sumI (xs : List Int) : Int := xs.foldl (· + ·) 0
noncomputable def Ex (a b c : Int) : List Int := (List.range (Builtin.Range.rangeSize a b c).toNat).map fun (i : Nat) => a + (i : Int) * c
noncomputable def Hd : AV → Option String
  | .none => some "NoneType"
  | .bool _ => some "bool"
  | .int _ => some "int"
  | .str _ => some "str"
  | .ilist _ => some "list"
  | .list _ => some "list"
  | .tup _ => some "tuple"
  | .dict _ => some "dict"
noncomputable def Af (f : F1) (x : AV) : Option AV := match f with
  | .len => (match x with | .str s => some (.int s.length) | .ilist s => some (.int s.length) | .list s => some (.int s.length) | .tup s => some (.int s.length) | _ => none)
  | .abs => (match x with | .int i => some (.int i.natAbs) | _ => none)
  | .list => (match x with | .ilist s => some (.ilist s) | .list s => some (.list s) | .tup s => some (mkL s) | _ => none)
  | .sum => (match x with | .ilist s => some (.int (sumI s)) | _ => none)
  | .str => (match x with | .int i => if i.natAbs.log2 < 1000 then some (.str (An i)) else none | _ => none)
  | .ord => (match x with | .str [c] => some (.int c) | _ => none)
noncomputable def Ay : AV → AV → Option AV
  | .ilist xs, .int i => (getI xs i).map .int
  | .list xs, .int i => getI xs i
  | .tup xs, .int i => getI xs i
  | .str xs, .int i => (getI xs i).map fun c => .str [c]
  | .dict es, .int k => (es.lookup k).map .int
  | _, _ => none
noncomputable def takeop : AV → AV → Option AV
  | .ilist xs, .int n => if 0 ≤ n then some (.ilist (xs.take n.toNat)) else none
  | .list xs, .int n => if 0 ≤ n then some (.list (xs.take n.toNat)) else none
  | .str xs, .int n => if 0 ≤ n then some (.str (xs.take n.toNat)) else none
  | _, _ => none
noncomputable def Ju : AV → AV → Option AV
  | .ilist xs, .int n => if 0 ≤ n then some (.ilist (xs.drop n.toNat)) else none
  | .list xs, .int n => if 0 ≤ n then some (.list (xs.drop n.toNat)) else none
  | .str xs, .int n => if 0 ≤ n then some (.str (xs.drop n.toNat)) else none
  | _, _ => none
noncomputable def Jj : List AV → Option (List (List Nat))
  | [] => some []
  | .str s :: r => (Jj r).map (s :: ·)
  | _ => none
noncomputable def Au (sep : List Nat) : List (List Nat) → List Nat
  | [] => []
  | [x] => x
  | x :: r => x ++ sep ++ Au sep r
noncomputable def Hu : AV → AV → Option AV
  | .str sep, b => match (match b with | .list ys => Jj ys | .ilist [] => some [] | _ => none) with
    | some ss => if (ss.map List.length).sum + ss.length * sep.length ≤ LIM then some (.str (Au sep ss)) else none
    | none => none
  | _, _ => none
noncomputable def getop : AV → AV → AV → Option AV
  | .dict es, .int k, .int v => some (.int ((es.lookup k).getD v))
  | _, _, _ => none
noncomputable def dset (es : List (Int × Int)) (k v : Int) : List (Int × Int) := match es with
  | [] => [(k, v)]
  | (a, b) :: r => if a = k then (k, v) :: r else (a, b) :: dset r k v
noncomputable def replAt (p : List Nat) (q : List Nat) : Nat → List Nat → List Nat
  | 0, s => s
  | _, [] => []
  | n + 1, c :: r => if p.isPrefixOf (c :: r) && !p.isEmpty then q ++ replAt p q n ((c :: r).drop p.length) else c :: replAt p q n r
noncomputable def replop : AV → AV → AV → Option AV
  | .str s, .str p, .str q => if p.isEmpty then none else some (.str (replAt p q (s.length + 1) s))
  | _, _, _ => none
noncomputable def Gg : AV → AV → Option AV
  | .ilist xs, .int i => if xs.length < LIM then some (.ilist (xs ++ [i])) else none
  | .ilist xs, v => if xs.length < LIM then some (.list (xs.map .int ++ [v])) else none
  | .list xs, v => if xs.length < LIM then some (.list (xs ++ [v])) else none
  | _, _ => none
noncomputable def storeop : AV → AV → AV → Option AV
  | .ilist xs, .int k, .int v => if 0 ≤ k ∧ k < xs.length then some (.ilist (xs.set k.toNat v)) else none
  | .list xs, .int k, v => if 0 ≤ k ∧ k < xs.length then some (.list (xs.set k.toNat v)) else none
  | .dict es, .int k, .int v => if es.length < LIM then some (.dict (dset es k v)) else none
  | _, _, _ => none
noncomputable def Gf (n : Nat) (v : AV) : Option (List AV) :=
  if n = 1 then some [v] else match v with
    | .tup xs => if xs.length = n then some xs else none
    | _ => none
noncomputable def glookup (G : List (Str × AV)) (x : Str) : Option AV := G.lookup x
section
variable (G : Str → Option AV) (F : Nat → List AV → Option Res)
noncomputable def slotR (σ : St) (i : Nat) : Option AV := match σ[i]? with
  | some (some (_, v)) => some v
  | _ => none
noncomputable def slotV (σ : St) (i : Nat) : Option AV := match σ[i]? with
  | some (some (false, v)) => some v
  | _ => none
noncomputable def Ev (tests : St → Option Bool) (elt : St → Option AV) (n : Nat) (σ : St) : List AV → Option (List AV)
  | [] => some []
  | v :: r => match Gf n v with
    | none => none
    | some vs => match tests (σ ++ vs.map fun x => some (false, x)) with
      | none => none
      | some false => Ev tests elt n σ r
      | some true => match elt (σ ++ vs.map fun x => some (false, x)) with
        | none => none
        | some y => (Ev tests elt n σ r).map (y :: ·)
noncomputable def Ae : ME → St → Option AV
  | .nil, _ => some (.tup [])
  | .cons a b, σ => match Ae a σ, Ae b σ with
    | some v, some (.tup vs) => some (.tup (v :: vs))
    | _, _ => none
  | .lit v, _ => some v
  | .var i, σ => slotV σ i
  | .rd i, σ => slotR σ i
  | .glob x, _ => G x
  | .bin op a b, σ => match Ae a σ, Ae b σ with
    | some x, some y => Ab op x y
    | _, _ => none
  | .neg a, σ => match Ae a σ with
    | some (.int i) => some (.int (-i))
    | _ => none
  | .not a, σ => match Ae a σ with
    | some v => (Aa v).map fun b => .bool (!b)
    | none => none
  | .and a b, σ => match Ae a σ with
    | some v => match Aa v with
      | some true => Ae b σ
      | some false => some v
      | none => none
    | none => none
  | .or a b, σ => match Ae a σ with
    | some v => match Aa v with
      | some true => some v
      | some false => Ae b σ
      | none => none
    | none => none
  | .cmp op a b, σ => match Ae a σ, Ae b σ with
    | some x, some y => (Ad op x y).map .bool
    | _, _ => none
  | .chain o1 o2 a b c, σ => match Ae a σ, Ae b σ with
    | some x, some y => match Ad o1 x y with
      | some true => match Ae c σ with
        | some z => (Ad o2 y z).map .bool
        | none => none
      | some false => some (.bool false)
      | none => none
    | _, _ => none
  | .isType t a, σ => match Ae a σ with
    | some v => (Hd v).map fun n => .bool (n == t)
    | none => none
  | .call f args, σ => match Ae args σ with
    | some (.tup vs) => match F f vs with
      | some (.val v) => some v
      | _ => none
    | _ => none
  | .f1 f a, σ => match Ae a σ with
    | some v => Af f v
    | none => none
  | .idx a i, σ => match Ae a σ, Ae i σ with
    | some x, some y => Ay x y
    | _, _ => none
  | .sliceTo a i, σ => match Ae a σ, Ae i σ with
    | some x, some y => takeop x y
    | _, _ => none
  | .sliceFrom a i, σ => match Ae a σ, Ae i σ with
    | some x, some y => Ju x y
    | _, _ => none
  | .list args, σ => match Ae args σ with
    | some (.tup vs) => if vs.length ≤ LIM then some (mkL vs) else none
    | _ => none
  | .tup args, σ => match Ae args σ with
    | some (.tup vs) => if vs.length ≤ LIM then some (.tup vs) else none
    | _ => none
  | .dict0, _ => some (.dict [])
  | .join a b, σ => match Ae a σ, Ae b σ with
    | some x, some y => Hu x y
    | _, _ => none
  | .get d k v, σ => match Ae d σ, Ae k σ, Ae v σ with
    | some x, some y, some z => getop x y z
    | _, _, _ => none
  | .comp elt n it ifs, σ => match Ae it σ with
    | some src => match Ff src with
      | some vs => if vs.length ≤ LIM then (Ev (fun σ' => (Ae ifs σ').bind Aa) (Ae elt) n σ vs).map mkL else none
      | none => none
    | none => none
  | .range a b c, σ => match Ae a σ, Ae b σ, Ae c σ with
    | some (.int x), some (.int y), some (.int z) => if (z = 1 ∨ z = -1) ∧ -(LIM : Int) ≤ x ∧ x ≤ LIM ∧ -(LIM : Int) ≤ y ∧ y ≤ LIM then some (.ilist (Ex x y z)) else none
    | _, _, _ => none
noncomputable def Bb (m : ME) (σ : St) : Option Bool := (Ae G F m σ).bind Aa
set_option genCtorIdx false in
inductive Out where
  | next | brk | cont | ret (v : AV) | exc
noncomputable abbrev Out.ctorIdx (x : Out) : Nat := @Out.casesOn (fun _ => Nat) x 0 1 2 (fun _ => 3) 4
noncomputable def setTgt (σ : St) : List Nat → List AV → Option St
  | [], [] => some σ
  | i :: is, v :: vs => setTgt (σ.set i (some (false, v))) is vs
  | _, _ => none
noncomputable def freeze (σ : St) (i : Nat) : St := match σ[i]? with
  | some (some (_, v)) => σ.set i (some (false, v))
  | _ => σ
noncomputable def isList : AV → Bool
  | .ilist _ | .list _ | .dict _ => true
  | _ => false
noncomputable def Dz (c : St → Option Bool) (b : St → Option (Out × St)) : Nat → St → Option (Out × St)
  | 0, _ => none
  | n + 1, σ => match c σ with
    | none => none
    | some false => some (.next, σ)
    | some true => match b σ with
      | none => none
      | some (.next, σ') => Dz c b n σ'
      | some (.cont, σ') => Dz c b n σ'
      | some (.brk, σ') => some (.next, σ')
      | some (o, σ') => some (o, σ')
noncomputable def Dy (tgt : List Nat) (b : St → Option (Out × St)) : List AV → St → Option (Out × St)
  | [], σ => some (.next, σ)
  | v :: r, σ => match Gf tgt.length v with
    | none => none
    | some vs => match setTgt σ tgt vs with
      | none => none
      | some σ1 => match b σ1 with
        | none => none
        | some (.next, σ') => Dy tgt b r σ'
        | some (.cont, σ') => Dy tgt b r σ'
        | some (.brk, σ') => some (.next, σ')
        | some (o, σ') => some (o, σ')
noncomputable def Ah (N : Nat) : MS → St → Option (Out × St)
  | .skip, σ => some (.next, σ)
  | .seq a b, σ => match Ah N a σ with
    | some (.next, σ') => Ah N b σ'
    | x => x
  | .fz i a, σ => Ah N a (freeze σ i)
  | .assign i m, σ => match Ae G F m σ with
    | some v => some (.next, σ.set i (some (false, v)))
    | none => none
  | .assignF i m, σ => match Ae G F m σ with
    | some v => if isList v then some (.next, σ.set i (some (true, v))) else none
    | none => none
  | .assignL i args, σ => match Ae G F args σ with
    | some (.tup vs) => if vs.length ≤ LIM then some (.next, σ.set i (some (true, mkL vs))) else none
    | _ => none
  | .store i k v, σ => match σ[i]?, Ae G F k σ, Ae G F v σ with
    | some (some (true, x)), some kv, some vv => match storeop x kv vv with
      | some y => some (.next, σ.set i (some (true, y)))
      | none => none
    | _, _, _ => none
  | .append i m, σ => match σ[i]?, Ae G F m σ with
    | some (some (true, x)), some v => match Gg x v with
      | some y => some (.next, σ.set i (some (true, y)))
      | none => none
    | _, _ => none
  | .ite c a b, σ => match Bb G F c σ with
    | some true => Ah N a σ
    | some false => Ah N b σ
    | none => none
  | .while c b, σ => Dz (Bb G F c) (Ah N b) N σ
  | .for tgt it b, σ => match Ae G F it σ with
    | some src => match Ff src with
      | some vs => Dy tgt (Ah N b) vs σ
      | none => none
    | none => none
  | .ret m, σ => match Ae G F m σ with
    | some v => some (.ret v, σ)
    | none => none
  | .raise, σ => some (.exc, σ)
  | .tryA t f args j b, σ => match Ae G F args σ with
    | some (.tup vs) => match F f vs with
      | some (.val v) => match t with
        | some i => some (.next, σ.set i (some (false, v)))
        | none => none
      | some .exc => some (.next, σ.set j (some (false, .bool b)))
      | none => none
    | _ => none
  | .brk, σ => some (.brk, σ)
  | .cont, σ => some (.cont, σ)
end
set_option genCtorIdx false in
inductive GK where
  | fn (i : Nat) (fresh : Bool)
  | bi (id : String)
  | ty (name : String)
  | tab
noncomputable abbrev GK.ctorIdx (x : GK) : Nat := @GK.casesOn (fun _ => Nat) x (fun _ _ => 0) (fun _ => 1) (fun _ => 2) 3
set_option genCtorIdx false in
structure CE where
  scope : Scope
  vm : List (Str × Nat)
  n : Nat
  gt : List (Str × GK)
  ap : List Nat := []
noncomputable def CE.glob (c : CE) (x : Str) : Option GK := if x == ("__debug__" : Str) then none else if c.scope.names.lookup x == some .globalImplicit then c.gt.lookup x else none
noncomputable def bopOf : Operator → Option BOp
  | .Add => some .add | .Sub => some .sub | .Mult => some .mul | .FloorDiv => some .fdiv | .Mod => some .mod | .Pow => some .pow
  | _ => none
noncomputable def copOf : CmpOp → Option COp
  | .Eq => some .eq | .NotEq => some .ne | .Lt => some .lt | .LtE => some .le | .Gt => some .gt | .GtE => some .ge | .In => some .isIn | .NotIn => some .notIn
  | _ => none
noncomputable def consAll : List ME → ME
  | [] => .nil
  | a :: r => .cons a (consAll r)
noncomputable def andAll : List ME → ME
  | [] => .lit (.bool true)
  | [a] => a
  | a :: r => .and a (andAll r)
noncomputable def orAll : List ME → ME
  | [] => .lit (.bool false)
  | [a] => a
  | a :: r => .or a (orAll r)
noncomputable def mapO {α β : Type} (f : α → Option β) : List α → Option (List β)
  | [] => some []
  | a :: r => match f a, mapO f r with
    | some b, some bs => some (b :: bs)
    | _, _ => none
noncomputable def nameOf : Expr → Option Str
  | .Name x _ => some x
  | _ => none
noncomputable def Bf : Expr → Option (List Str)
  | .Name x _ => some [x]
  | .Tuple es _ _ => if es.length < 2 then none else mapO nameOf es
  | _ => none
noncomputable def Jq : Expr → Bool
  | .Call .. => true
  | _ => false
noncomputable def Eg (outer scope : Scope) (xs : List Str) : Bool :=
  scope.kind == .function && scope.names.all (fun p => p.2 == .local || p.2 == .free || p.2 == .globalImplicit) &&
  scope.names.all (fun p => scope.names.lookup p.1 == some p.2) &&
  scope.names.all (fun p => p.2 != .free || outer.names.lookup p.1 == some .cell) &&
  xs.all (fun x => scope.names.lookup x == some .local) && decide xs.Nodup
noncomputable def caps : ME → List Nat
  | .nil | .lit _ | .glob _ | .dict0 | .rd _ => []
  | .var i => [i]
  | .neg a | .not a | .isType _ a | .f1 _ a | .list a | .tup a | .call _ a => caps a
  | .cons a b | .bin _ a b | .and a b | .or a b | .cmp _ a b | .idx a b | .sliceTo a b | .sliceFrom a b | .join a b  => caps a ++ caps b
  | .chain _ _ a b c | .get a b c | .range a b c => caps a ++ caps b ++ caps c
  | .comp a _ b c => caps a ++ caps b ++ caps c
noncomputable def Iz (fresh : Nat → Bool) : ME → Bool
  | .list _ | .comp .. | .sliceTo .. | .sliceFrom .. | .dict0 => true
  | .bin .mul _ _ | .bin .add _ _ => true
  | .f1 .list _ => true
  | .call f _ => fresh f
  | _ => false
noncomputable def fzAll : List Nat → MS → MS
  | [], s => s
  | i :: r, s => .fz i (fzAll r s)
set_option genCtorIdx false in
structure CS extends CE where
  mu : List Nat
  fresh : Nat → Bool
noncomputable def CS.fz (c : CS) (m : List ME) (s : MS) : MS := fzAll ((m.flatMap caps).filter (c.mu.contains ·)).eraseDups s
noncomputable def seqAll : List MS → MS
  | [] => .skip
  | a :: r => .seq a (seqAll r)
set_option genCtorIdx false in
structure MF where
  nargs : Nat
  nslots : Nat
  body : MS
noncomputable def Eh (sc : Scope) : List Str := (sc.names.filter fun p => p.2 == .local || p.2 == .cell).map (·.1)
end Mine
end
section
open PySem
namespace Mine
set_option tactic.hygienic false
set_option autoImplicit false
abbrev vv (x : AV) : Option (Bool × AV) := some (false, x)
theorem Fq {α β : Type} {x : Option α} {y : Option β} (e : x ≠ none) (k : ∀ o, x = some o → ∃ o', y = some o') : y ≠ none := by
  cases x with
  | none => exact absurd rfl e
  | some o => obtain ⟨o', h⟩ := k o rfl; rw [h]; exact fun z => nomatch z
theorem nn {α : Type} {x : Option α} {a : α} (h : x = some a) : x ≠ none := fun z => nomatch z.symm.trans h
theorem nN {α : Type} {x : Option α} {a : α} (h : x = none) (e : x = some a) : False := nomatch h.symm.trans e
theorem nS {α : Type} {a : α} (h : (none : Option α) = some a) : False := nomatch h
theorem iS {α : Type} {p : Prop} [Decidable p] {a b : α} (h : (if p then some a else none) = some b) : p ∧ a = b := by
  by_cases q : p
  · rw [if_pos q] at h; exact ⟨q, Option.some.inj h⟩
  · rw [if_neg q] at h; exact (nS h).elim
theorem iN {α : Type} {p : Prop} [Decidable p] {a b : α} (h : (if p then none else some a) = some b) : ¬p ∧ a = b := by
  by_cases q : p
  · rw [if_pos q] at h; exact (nS h).elim
  · rw [if_neg q] at h; exact ⟨q, Option.some.inj h⟩
theorem mS {α β : Type} {f : α → β} {o : Option α} {b : β} (h : o.map f = some b) : ∃ a, o = some a ∧ f a = b := Option.map_eq_some_iff.mp h
theorem i1 {β : Type} {o : Option AV} {k : AV → Option β} {b : β} (h : (match o with | some v => k v | none => none) = some b) : ∃ v, o = some v ∧ k v = some b := by
  cases o with
  | none => exact (nS h).elim
  | some v => exact ⟨v, rfl, h⟩
theorem i2 {β : Type} {o p : Option AV} {k : AV → AV → Option β} {b : β} (h : (match o, p with | some v, some w => k v w | _, _ => none) = some b) : ∃ v w, o = some v ∧ p = some w ∧ k v w = some b := by
  cases o with
  | none => exact (nS h).elim
  | some v => cases p with
    | none => exact (nS h).elim
    | some w => exact ⟨v, w, rfl, rfl, h⟩
theorem i3 {β : Type} {o p q : Option AV} {k : AV → AV → AV → Option β} {b : β} (h : (match o, p, q with | some v, some w, some x => k v w x | _, _, _ => none) = some b) : ∃ v w x, o = some v ∧ p = some w ∧ q = some x ∧ k v w x = some b := by
  cases o with
  | none => exact (nS h).elim
  | some v => cases p with
    | none => exact (nS h).elim
    | some w => cases q with
      | none => exact (nS h).elim
      | some x => exact ⟨v, w, x, rfl, rfl, rfl, h⟩
theorem iT {β : Type} {o : Option AV} {k : List AV → Option β} {b : β} (h : (match o with | some (.tup vs) => k vs | _ => none) = some b) : ∃ vs, o = some (.tup vs) ∧ k vs = some b := by
  cases o with
  | none => exact (nS h).elim
  | some v => cases v <;> first | exact (nS h).elim | exact ⟨_, rfl, h⟩
theorem iI {β : Type} {o : Option AV} {k : Int → Option β} {b : β} (h : (match o with | some (.int vs) => k vs | _ => none) = some b) : ∃ vs, o = some (.int vs) ∧ k vs = some b := by
  cases o with
  | none => exact (nS h).elim
  | some v => cases v <;> first | exact (nS h).elim | exact ⟨_, rfl, h⟩
theorem iC {β : Type} {p o : Option AV} {k : AV → List AV → Option β} {b : β} (h : (match p, o with | some v, some (.tup vs) => k v vs | _, _ => none) = some b) : ∃ v vs, p = some v ∧ o = some (.tup vs) ∧ k v vs = some b := by
  cases p with
  | none => exact (nS h).elim
  | some w => cases o with
    | none => exact (nS h).elim
    | some v => cases v <;> first | exact (nS h).elim | exact ⟨_, _, rfl, rfl, h⟩
theorem iV {β : Type} {o : Option Res} {k : AV → Option β} {b : β} (h : (match o with | some (.val v) => k v | _ => none) = some b) : ∃ v, o = some (.val v) ∧ k v = some b := by
  cases o with
  | none => exact (nS h).elim
  | some v => cases v <;> first | exact (nS h).elim | exact ⟨_, rfl, h⟩
theorem iR {β : Type} {o p q : Option AV} {k : Int → Int → Int → Option β} {b : β} (h : (match o, p, q with | some (.int x), some (.int y), some (.int z) => k x y z | _, _, _ => none) = some b) : ∃ x y z, o = some (.int x) ∧ p = some (.int y) ∧ q = some (.int z) ∧ k x y z = some b := by
  cases o with
  | none => exact (nS h).elim
  | some v => cases v <;> first | exact (nS h).elim | skip
              cases p with
              | none => exact (nS h).elim
              | some v => cases v <;> first | exact (nS h).elim | skip
                          cases q with
                          | none => exact (nS h).elim
                          | some v => cases v <;> first | exact (nS h).elim | exact ⟨_, _, _, rfl, rfl, rfl, h⟩
theorem iB {β : Type} {o : Option Bool} {x y : Option β} {b : β} (h : (match o with | some true => x | some false => y | none => none) = some b) : (o = some true ∧ x = some b) ∨ (o = some false ∧ y = some b) := by
  cases o with
  | none => exact (nS h).elim
  | some v => cases v <;> first | exact .inl ⟨rfl, h⟩ | exact .inr ⟨rfl, h⟩
theorem iO {β : Type} {o : Option (Option (Bool × AV))} {k : Bool → AV → Option β} {b : β} (h : (match o with | some (some (f, v)) => k f v | _ => none) = some b) : ∃ f v, o = some (some (f, v)) ∧ k f v = some b := by
  rcases o with _ | _ | ⟨_, _⟩ <;> first | exact (nS h).elim | exact ⟨_, _, rfl, h⟩
theorem iF {o : Option (Option (Bool × AV))} {b : AV} (h : (match o with | some (some (false, v)) => some v | _ => none) = some b) : o = some (some (false, b)) := by
  rcases o with _ | _ | ⟨_ | _, _⟩ <;> first | exact (nS h).elim | (cases h; rfl)
theorem iP {β : Type} {o : Option (Option (Bool × AV))} {p : Option AV} {k : AV → AV → Option β} {b : β} (h : (match o, p with | some (some (true, x)), some v => k x v | _, _ => none) = some b) : ∃ x v, o = some (some (true, x)) ∧ p = some v ∧ k x v = some b := by
  rcases o with _ | _ | ⟨_ | _, _⟩ <;> rcases p with _ | _ <;> first | exact (nS h).elim | exact ⟨_, _, rfl, rfl, h⟩
theorem iQ {β : Type} {o : Option (Option (Bool × AV))} {p q : Option AV} {k : AV → AV → AV → Option β} {b : β} (h : (match o, p, q with | some (some (true, x)), some v, some w => k x v w | _, _, _ => none) = some b) : ∃ x v w, o = some (some (true, x)) ∧ p = some v ∧ q = some w ∧ k x v w = some b := by
  rcases o with _ | _ | ⟨_ | _, _⟩ <;> rcases p with _ | _ <;> rcases q with _ | _ <;> first | exact (nS h).elim | exact ⟨_, _, _, rfl, rfl, rfl, h⟩
theorem iL {β : Type} {o : Option (List AV)} {k : List AV → Option β} {b : β} (h : (match o with | some v => k v | none => none) = some b) : ∃ v, o = some v ∧ k v = some b := by
  cases o with
  | none => exact (nS h).elim
  | some v => exact ⟨v, rfl, h⟩
theorem iM {α β : Type} {p : Prop} [Decidable p] {o : Option α} {f : α → β} {b : β} (h : (if p then o.map f else none) = some b) : ∃ a, b = f a := by
  by_cases q : p
  · rw [if_pos q] at h; obtain ⟨a, _, e⟩ := mS h; exact ⟨a, e.symm⟩
  · rw [if_neg q] at h; exact (nS h).elim
section
variable {G : Str → Option AV} {F : Nat → List AV → Option Res} {N : Nat} {σ : St}
theorem J0 : Ah G F N .skip σ = some (.next, σ) := rfl
theorem J1 {a b : MS} : Ah G F N (.seq a b) σ = (match Ah G F N a σ with | some (.next, σ') => Ah G F N b σ' | x => x) := rfl
theorem J2 {i : Nat} {a : MS} : Ah G F N (.fz i a) σ = Ah G F N a (freeze σ i) := rfl
theorem J3 {i : Nat} {m : ME} : Ah G F N (.assign i m) σ = (match Ae G F m σ with | some v => some (.next, σ.set i (some (false, v))) | none => none) := rfl
theorem J4 {i : Nat} {m : ME} : Ah G F N (.assignF i m) σ = (match Ae G F m σ with | some v => if isList v then some (.next, σ.set i (some (true, v))) else none | none => none) := rfl
theorem J5 {i : Nat} {m : ME} : Ah G F N (.assignL i m) σ = (match Ae G F m σ with | some (.tup vs) => if vs.length ≤ LIM then some (.next, σ.set i (some (true, mkL vs))) else none | _ => none) := rfl
theorem J6 {i : Nat} {k v : ME} : Ah G F N (.store i k v) σ = (match σ[i]?, Ae G F k σ, Ae G F v σ with
    | some (some (true, x)), some kv, some vv => match storeop x kv vv with
      | some y => some (.next, σ.set i (some (true, y)))
      | none => none
    | _, _, _ => none) := rfl
theorem J7 {i : Nat} {m : ME} : Ah G F N (.append i m) σ = (match σ[i]?, Ae G F m σ with
    | some (some (true, x)), some v => match Gg x v with
      | some y => some (.next, σ.set i (some (true, y)))
      | none => none
    | _, _ => none) := rfl
theorem J8 {c : ME} {a b : MS} : Ah G F N (.ite c a b) σ = (match Bb G F c σ with | some true => Ah G F N a σ | some false => Ah G F N b σ | none => none) := rfl
theorem J9 {c : ME} {b : MS} : Ah G F N (.while c b) σ = Dz (Bb G F c) (Ah G F N b) N σ := rfl
theorem K0 {t : List Nat} {it : ME} {b : MS} : Ah G F N (.for t it b) σ = (match Ae G F it σ with
    | some src => match Ff src with
      | some vs => Dy t (Ah G F N b) vs σ
      | none => none
    | none => none) := rfl
theorem K1 {m : ME} : Ah G F N (.ret m) σ = (match Ae G F m σ with | some v => some (.ret v, σ) | none => none) := rfl
theorem K2 : Ah G F N .raise σ = some (.exc, σ) := rfl
theorem K3 : Ah G F N .brk σ = some (.brk, σ) := rfl
theorem K4 : Ah G F N .cont σ = some (.cont, σ) := rfl
theorem K5 {t : Option Nat} {f : Nat} {args : ME} {j : Nat} {b : Bool} : Ah G F N (.tryA t f args j b) σ = (match Ae G F args σ with
    | some (.tup vs) => match F f vs with
      | some (.val v) => match t with
        | some i => some (.next, σ.set i (some (false, v)))
        | none => none
      | some .exc => some (.next, σ.set j (some (false, .bool b)))
      | none => none
    | _ => none) := rfl
theorem w_zero {c : St → Option Bool} {b : St → Option (Out × St)} : Dz c b 0 σ = none := rfl
theorem Jf {c : St → Option Bool} {b : St → Option (Out × St)} {n : Nat} : Dz c b (n + 1) σ = (match c σ with
    | none => none
    | some false => some (.next, σ)
    | some true => match b σ with
      | none => none
      | some (.next, σ') => Dz c b n σ'
      | some (.cont, σ') => Dz c b n σ'
      | some (.brk, σ') => some (.next, σ')
      | some (o, σ') => some (o, σ')) := rfl
theorem f_nil {t : List Nat} {b : St → Option (Out × St)} : Dy t b [] σ = some (.next, σ) := rfl
theorem f_cons {t : List Nat} {b : St → Option (Out × St)} {v : AV} {r : List AV} : Dy t b (v :: r) σ = (match Gf t.length v with
    | none => none
    | some vs => match setTgt σ t vs with
      | none => none
      | some σ1 => match b σ1 with
        | none => none
        | some (.next, σ') => Dy t b r σ'
        | some (.cont, σ') => Dy t b r σ'
        | some (.brk, σ') => some (.next, σ')
        | some (o, σ') => some (o, σ')) := rfl
theorem K6 {m : ME} : Bb G F m σ = (Ae G F m σ).bind Aa := rfl
theorem K7 : Ae G F .nil σ = some (.tup []) := rfl
theorem K8 {a b : ME} : Ae G F (.cons a b) σ = (match Ae G F a σ, Ae G F b σ with | some v, some (.tup vs) => some (.tup (v :: vs)) | _, _ => none) := rfl
theorem K9 {v : AV} : Ae G F (.lit v) σ = some v := rfl
theorem Q0 {i : Nat} : Ae G F (.var i) σ = slotV σ i := rfl
theorem Q1 {i : Nat} : Ae G F (.rd i) σ = slotR σ i := rfl
theorem Q2 {x : Str} : Ae G F (.glob x) σ = G x := rfl
theorem Q3 {op : BOp} {a b : ME} : Ae G F (.bin op a b) σ = (match Ae G F a σ, Ae G F b σ with | some x, some y => Ab op x y | _, _ => none) := rfl
theorem Q4 {a : ME} : Ae G F (.neg a) σ = (match Ae G F a σ with | some (.int i) => some (.int (-i)) | _ => none) := rfl
theorem Q5 {a : ME} : Ae G F (.not a) σ = (match Ae G F a σ with | some v => (Aa v).map fun b => .bool (!b) | none => none) := rfl
theorem Q6 {a b : ME} : Ae G F (.and a b) σ = (match Ae G F a σ with
    | some v => match Aa v with
      | some true => Ae G F b σ
      | some false => some v
      | none => none
    | none => none) := rfl
theorem Q7 {a b : ME} : Ae G F (.or a b) σ = (match Ae G F a σ with
    | some v => match Aa v with
      | some true => some v
      | some false => Ae G F b σ
      | none => none
    | none => none) := rfl
theorem Q8 {op : COp} {a b : ME} : Ae G F (.cmp op a b) σ = (match Ae G F a σ, Ae G F b σ with | some x, some y => (Ad op x y).map .bool | _, _ => none) := rfl
theorem Q9 {o1 o2 : COp} {a b c : ME} : Ae G F (.chain o1 o2 a b c) σ = (match Ae G F a σ, Ae G F b σ with
    | some x, some y => match Ad o1 x y with
      | some true => match Ae G F c σ with
        | some z => (Ad o2 y z).map .bool
        | none => none
      | some false => some (.bool false)
      | none => none
    | _, _ => none) := rfl
theorem U0 {t : String} {a : ME} : Ae G F (.isType t a) σ = (match Ae G F a σ with | some v => (Hd v).map fun n => .bool (n == t) | none => none) := rfl
theorem U1 {f : Nat} {a : ME} : Ae G F (.call f a) σ = (match Ae G F a σ with
    | some (.tup vs) => match F f vs with
      | some (.val v) => some v
      | _ => none
    | _ => none) := rfl
theorem U2 {f : F1} {a : ME} : Ae G F (.f1 f a) σ = (match Ae G F a σ with | some v => Af f v | none => none) := rfl
theorem U3 {a b : ME} : Ae G F (.idx a b) σ = (match Ae G F a σ, Ae G F b σ with | some x, some y => Ay x y | _, _ => none) := rfl
theorem U4 {a b : ME} : Ae G F (.sliceTo a b) σ = (match Ae G F a σ, Ae G F b σ with | some x, some y => takeop x y | _, _ => none) := rfl
theorem U5 {a b : ME} : Ae G F (.sliceFrom a b) σ = (match Ae G F a σ, Ae G F b σ with | some x, some y => Ju x y | _, _ => none) := rfl
theorem U6 {a : ME} : Ae G F (.list a) σ = (match Ae G F a σ with | some (.tup vs) => if vs.length ≤ LIM then some (mkL vs) else none | _ => none) := rfl
theorem U7 {a : ME} : Ae G F (.tup a) σ = (match Ae G F a σ with | some (.tup vs) => if vs.length ≤ LIM then some (.tup vs) else none | _ => none) := rfl
theorem U8 : Ae G F .dict0 σ = some (.dict []) := rfl
theorem U9 {a b : ME} : Ae G F (.join a b) σ = (match Ae G F a σ, Ae G F b σ with | some x, some y => Hu x y | _, _ => none) := rfl
theorem V0 {a b c : ME} : Ae G F (.get a b c) σ = (match Ae G F a σ, Ae G F b σ, Ae G F c σ with | some x, some y, some z => getop x y z | _, _, _ => none) := rfl
theorem V1 {elt : ME} {n : Nat} {it ifs : ME} : Ae G F (.comp elt n it ifs) σ = (match Ae G F it σ with
    | some src => match Ff src with
      | some vs => if vs.length ≤ LIM then (Ev (Bb G F ifs) (Ae G F elt) n σ vs).map mkL else none
      | none => none
    | none => none) := rfl
theorem V2 {a b c : ME} : Ae G F (.range a b c) σ = (match Ae G F a σ, Ae G F b σ, Ae G F c σ with
    | some (.int x), some (.int y), some (.int z) => if (z = 1 ∨ z = -1) ∧ -(LIM : Int) ≤ x ∧ x ≤ LIM ∧ -(LIM : Int) ≤ y ∧ y ≤ LIM then some (.ilist (Ex x y z)) else none
    | _, _, _ => none) := rfl
theorem V3 {i : Nat} : slotR σ i = (match σ[i]? with | some (some (_, v)) => some v | _ => none) := rfl
theorem V4 {i : Nat} : slotV σ i = (match σ[i]? with | some (some (false, v)) => some v | _ => none) := rfl
end
theorem iD {G : Str → Option AV} {F : Nat → List AV → Option Res} {m : ME} {σ : St} {b : Bool} (h : Bb G F m σ = some b) : ∃ w, Ae G F m σ = some w ∧ Aa w = some b := Option.bind_eq_some_iff.mp h
theorem mo_c {α β : Type} {f : α → Option β} {a : α} {r : List α} {l : List β} (h : mapO f (a :: r) = some l) : ∃ b bs, f a = some b ∧ mapO f r = some bs ∧ l = b :: bs := by
  have e : mapO f (a :: r) = (match f a, mapO f r with | some b, some bs => some (b :: bs) | _, _ => none) := rfl
  rw [e] at h
  cases q : f a with
  | none => rw [q] at h; exact (nS h).elim
  | some b => cases q' : mapO f r with
    | none => rw [q, q'] at h; exact (nS h).elim
    | some bs => rw [q, q'] at h; exact ⟨b, bs, rfl, rfl, (Option.some.inj h).symm⟩
theorem io_c {i : Int} {r : List AV} : Hk (.int i :: r) = (Hk r).map (i :: ·) := rfl
theorem so_c {i : List Nat} {r : List AV} : Jj (.str i :: r) = (Jj r).map (i :: ·) := rfl
noncomputable def mulO (x y : Int) : Option Int := if Bd x y then some (x * y) else none
theorem range_nat (n : Nat) : Ex 0 n 1 = (List.range n).map fun (i : Nat) => (i : Int) := by
  unfold Ex Builtin.Range.rangeSize
  simp only [show (1 : Int) > 0 by decide, if_true, Int.ediv_one]
  have : (if (0 : Int) < n then (n : Int) - 0 - 1 + 1 else 0).toNat = n := by split <;> lia
  rw [this]
  apply List.map_congr_left
  intro i _; lia
theorem Fb (xs : List Int) : mkL (xs.map .int) = .ilist xs := by
  have : Hk (xs.map AV.int) = some xs := by
    induction xs with
    | nil => rfl
    | cons a r ih => rw [List.map_cons, io_c, ih]; rfl
  unfold mkL; rw [this]
theorem Gs {tests : St → Option Bool} {elt : St → Option AV} {σ : St} (f : AV → AV) : ∀ {ys : List AV}, (∀ y ∈ ys, tests (σ ++ [some (false, y)]) = some true) → (∀ y ∈ ys, elt (σ ++ [some (false, y)]) = some (f y)) → Ev tests elt 1 σ ys = some (ys.map f)
  | [], _, _ => rfl
  | y :: r, h1, h2 => by
    have e1 := h1 y List.mem_cons_self
    have e2 := h2 y List.mem_cons_self
    have ih := Gs f (fun z hz => h1 z (List.mem_cons_of_mem _ hz)) (fun z hz => h2 z (List.mem_cons_of_mem _ hz))
    simp only [Ev, Gf, if_true, List.map_cons, List.map_nil, e1, e2, ih, Option.map_some]
theorem Ii {tests : St → Option Bool} {elt : St → Option AV} {σ : St} (p : AV → Bool) (f : AV → AV) : ∀ {ys : List AV}, (∀ y ∈ ys, tests (σ ++ [some (false, y)]) = some (p y)) → (∀ y ∈ ys, p y = true → elt (σ ++ [some (false, y)]) = some (f y)) → Ev tests elt 1 σ ys = some ((ys.filter p).map f)
  | [], _, _ => rfl
  | y :: r, h1, h2 => by
    have e1 := h1 y List.mem_cons_self
    have ih := Ii p f (fun z hz => h1 z (List.mem_cons_of_mem _ hz)) (fun z hz => h2 z (List.mem_cons_of_mem _ hz))
    cases hp : p y with
    | false => rw [hp] at e1; simp only [Ev, Gf, if_true, List.map_cons, List.map_nil, e1, ih, List.filter_cons, hp, Bool.false_eq_true, if_false]
    | true =>
      have e2 := h2 y List.mem_cons_self hp
      rw [hp] at e1
      simp only [Ev, Gf, if_true, List.map_cons, List.map_nil, e1, e2, ih, Option.map_some, List.filter_cons, hp]
section
variable {σ σ' : St} {c : St → Option Bool} {b : St → Option (Out × St)} {n : Nat}
theorem Fo (h : c σ = some false) : Dz c b (n + 1) σ = some (.next, σ) := by rw [Jf, h]
theorem Hh (h : c σ = some true) (hb : b σ = some (.next, σ')) : Dz c b (n + 1) σ = Dz c b n σ' := by rw [Jf, h]; simp only [hb]
theorem w_ret {v : AV} (h : c σ = some true) (hb : b σ = some (.ret v, σ')) : Dz c b (n + 1) σ = some (.ret v, σ') := by rw [Jf, h]; simp only [hb]
theorem w_exc (h : c σ = some true) (hb : b σ = some (.exc, σ')) : Dz c b (n + 1) σ = some (.exc, σ') := by rw [Jf, h]; simp only [hb]
theorem w_brk (h : c σ = some true) (hb : b σ = some (.brk, σ')) : Dz c b (n + 1) σ = some (.next, σ') := by rw [Jf, h]; simp only [hb]
theorem Fs {i : Nat} {v : AV} {r : List AV} (hb : b (σ.set i (some (false, v))) = some (.next, σ')) : Dy [i] b (v :: r) σ = Dy [i] b r σ' := by
  have e : Dy [i] b (v :: r) σ = (match b (σ.set i (some (false, v))) with
    | none => none
    | some (.next, σ') => Dy [i] b r σ'
    | some (.cont, σ') => Dy [i] b r σ'
    | some (.brk, σ') => some (.next, σ')
    | some (o, σ') => some (o, σ')) := rfl
  rw [e, hb]
theorem f_next2 {i j : Nat} {v w : AV} {r : List AV} (hb : b ((σ.set i (some (false, v))).set j (some (false, w))) = some (.next, σ')) : Dy [i, j] b (.tup [v, w] :: r) σ = Dy [i, j] b r σ' := by
  have e : Dy [i, j] b (.tup [v, w] :: r) σ = (match b ((σ.set i (some (false, v))).set j (some (false, w))) with
    | none => none
    | some (.next, σ') => Dy [i, j] b r σ'
    | some (.cont, σ') => Dy [i, j] b r σ'
    | some (.brk, σ') => some (.next, σ')
    | some (o, σ') => some (o, σ')) := rfl
  rw [e, hb]
end
section
variable {G : Str → Option AV} {F : Nat → List AV → Option Res} {N : Nat} {σ σ' : St} {a b : MS}
theorem Ag (h : Ah G F N a σ = some (.next, σ')) : Ah G F N (.seq a b) σ = Ah G F N b σ' := by rw [J1, h]
theorem Kj {v : AV} (h : Ah G F N a σ = some (.ret v, σ')) : Ah G F N (.seq a b) σ = some (.ret v, σ') := by rw [J1, h]
theorem x_throw (h : Ah G F N a σ = some (.exc, σ')) : Ah G F N (.seq a b) σ = some (.exc, σ') := by rw [J1, h]
theorem mkL1 (x : Int) : mkL [.int x] = .ilist [x] := rfl
theorem mkL0 : mkL [] = .ilist [] := rfl
end
theorem Cm : Aa .none = some false := rfl
theorem Co {b : Bool} : Aa (.bool b) = some b := rfl
theorem Cs {i : Int} : Aa (.int i) = some (i != 0) := rfl
theorem Cr {s : List Nat} : Aa (.str s) = some (!s.isEmpty) := rfl
theorem Cf {s : List Int} : Aa (.ilist s) = some (!s.isEmpty) := rfl
theorem Cn {s : List AV} : Aa (.list s) = some (!s.isEmpty) := rfl
theorem Cb {s : List Nat} : Af .len (.str s) = some (.int s.length) := rfl
theorem Bv {s : List Int} : Af .len (.ilist s) = some (.int s.length) := rfl
theorem Bw {s : List AV} : Af .len (.list s) = some (.int s.length) := rfl
theorem Ca {s : List AV} : Af .len (.tup s) = some (.int s.length) := rfl
theorem Di {i : Int} : Af .abs (.int i) = some (.int i.natAbs) := rfl
theorem Cl {s : List Int} : Af .list (.ilist s) = some (.ilist s) := rfl
theorem Ck {s : List AV} : Af .list (.list s) = some (.list s) := rfl
theorem Cj {s : List AV} : Af .list (.tup s) = some (mkL s) := rfl
theorem De {s : List Int} : Af .sum (.ilist s) = some (.int (sumI s)) := rfl
theorem Df {i : Int} : Af .str (.int i) = (if i.natAbs.log2 < 1000 then some (.str (An i)) else none) := rfl
theorem Dh {c : Nat} : Af .ord (.str [c]) = some (.int c) := rfl
theorem eq_int {a b : Int} : eqAV (.int a) (.int b) = some (a == b) := rfl
theorem eq_bool {a b : Bool} : eqAV (.bool a) (.bool b) = some (a == b) := rfl
theorem eq_str {a b : List Nat} : eqAV (.str a) (.str b) = some (a == b) := rfl
theorem Du {a b : List Int} : eqAV (.ilist a) (.ilist b) = some (a == b) := rfl
theorem Cy {a b : Int} : Ab .add (.int a) (.int b) = some (.int (a + b)) := rfl
theorem Cu {a b : List Nat} : Ab .add (.str a) (.str b) = (if a.length + b.length ≤ LIM then some (.str (a ++ b)) else none) := rfl
theorem Dm {a b : List Int} : Ab .add (.ilist a) (.ilist b) = (if a.length + b.length ≤ LIM then some (.ilist (a ++ b)) else none) := rfl
theorem Dj {a b : List AV} : Ab .add (.list a) (.list b) = (if a.length + b.length ≤ LIM then some (.list (a ++ b)) else none) := rfl
theorem Dl {a : List Int} {b : List AV} : Ab .add (.ilist a) (.list b) = (if a.length + b.length ≤ LIM then some (.list (a.map .int ++ b)) else none) := rfl
theorem Dk {a : List AV} {b : List Int} : Ab .add (.list a) (.ilist b) = (if a.length + b.length ≤ LIM then some (.list (a ++ b.map .int)) else none) := rfl
theorem Ct {a b : Int} : Ab .sub (.int a) (.int b) = some (.int (a - b)) := rfl
theorem Cq {a b : Int} : Ab .mul (.int a) (.int b) = (if Bd a b then some (.int (a * b)) else none) := rfl
theorem Cp {a : List Nat} {b : Int} : Ab .mul (.str a) (.int b) = (if 0 ≤ b ∧ b ≤ LIM ∧ a.length * b.toNat ≤ LIM then some (.str (List.replicate b.toNat a).flatten) else none) := rfl
theorem Cc {a : List Int} {b : Int} : Ab .mul (.ilist a) (.int b) = (if 0 ≤ b ∧ b ≤ LIM ∧ a.length * b.toNat ≤ LIM then some (.ilist (List.replicate b.toNat a).flatten) else none) := rfl
theorem Cg {a : List AV} {b : Int} : Ab .mul (.list a) (.int b) = (if 0 ≤ b ∧ b ≤ LIM ∧ a.length * b.toNat ≤ LIM then some (.list (List.replicate b.toNat a).flatten) else none) := rfl
theorem Cz {a b : Int} : Ab .fdiv (.int a) (.int b) = (if b = 0 then none else some (.int (a.fdiv b))) := rfl
theorem Cw {a b : Int} : Ab .mod (.int a) (.int b) = (if b = 0 then none else some (.int (a.fmod b))) := rfl
theorem Cv {a b : Int} : Ab .pow (.int a) (.int b) = (if 0 ≤ b ∧ (Builtin.Int.intBits a : Int) * b ≤ 2 ^ 27 then some (.int (a ^ b.toNat)) else none) := rfl
theorem Dt {x y : AV} : Ad .eq x y = eqAV x y := rfl
theorem Dn {x y : AV} : Ad .ne x y = (eqAV x y).map (!·) := rfl
theorem Dp {a b : Int} : Ad .lt (.int a) (.int b) = some (decide (a < b)) := rfl
theorem Dq {a b : Int} : Ad .le (.int a) (.int b) = some (decide (a ≤ b)) := rfl
theorem Dr {a b : Int} : Ad .gt (.int a) (.int b) = some (decide (a > b)) := rfl
theorem Ds {a b : Int} : Ad .ge (.int a) (.int b) = some (decide (a ≥ b)) := rfl
theorem Da {a b : List Nat} : Ad .lt (.str a) (.str b) = some (Fy a b) := rfl
theorem Db {a b : List Nat} : Ad .le (.str a) (.str b) = some (!Fy b a) := rfl
theorem Dc {a b : List Nat} : Ad .gt (.str a) (.str b) = some (Fy b a) := rfl
theorem Dd {a b : List Nat} : Ad .ge (.str a) (.str b) = some (!Fy a b) := rfl
theorem Ci {x : AV} {b : List AV} : Ad .isIn x (.tup b) = inAV x b := rfl
theorem Ch {x : AV} {b : List AV} : Ad .notIn x (.tup b) = (inAV x b).map (!·) := rfl
theorem Ce {x : AV} {b : List AV} : Ad .isIn x (.list b) = inAV x b := rfl
theorem Cd {x : AV} {b : List AV} : Ad .notIn x (.list b) = (inAV x b).map (!·) := rfl
theorem Bz {x : AV} {b : List Int} : Ad .isIn x (.ilist b) = inAV x (b.map .int) := rfl
theorem Bx {x : AV} {b : List Int} : Ad .notIn x (.ilist b) = (inAV x (b.map .int)).map (!·) := rfl
theorem By {y : AV} : Ad .isNone .none y = some true := rfl
theorem Bu {a : Int} {y : AV} : Ad .isNone (.int a) y = some false := rfl
theorem Bq {a : List Int} {y : AV} : Ad .isNone (.ilist a) y = some false := rfl
theorem Br {a : List AV} {y : AV} : Ad .isNone (.list a) y = some false := rfl
theorem Bt {a : List AV} {y : AV} : Ad .isNone (.tup a) y = some false := rfl
theorem Bs {y : AV} : Ad .isNotNone .none y = some false := rfl
theorem Bp {a : Int} {y : AV} : Ad .isNotNone (.int a) y = some true := rfl
theorem Bm {a : List Int} {y : AV} : Ad .isNotNone (.ilist a) y = some true := rfl
theorem Bn {a : List AV} {y : AV} : Ad .isNotNone (.list a) y = some true := rfl
theorem Bo {a : List AV} {y : AV} : Ad .isNotNone (.tup a) y = some true := rfl
theorem Do {a b : Bool} : Ad .isNotBool (.bool a) (.bool b) = some (a != b) := rfl
theorem lim2 : (0 + 1 + 1 ≤ LIM) = True := eq_true (by decide)
theorem ZA {v x L z : Nat} (h : v = x) (k : x ≤ L) (l : L ≤ z) : v ≤ z := h ▸ Nat.le_trans k l
theorem ZB {v x L z : Nat} (h : v = x) (k : x < L) (l : L ≤ z) : v ≤ z := h ▸ Nat.le_of_lt (Nat.lt_of_lt_of_le k l)
theorem ZC {m n : Nat} (h : m ≤ n + 1) (k : ¬m = n + 1) : m ≤ n := Nat.le_of_lt_succ (Nat.lt_of_le_of_ne h k)
theorem ZD {m n : Nat} (h : m < n + 1) (k : ¬m = n) : m < n := Nat.lt_of_le_of_ne (Nat.le_of_lt_succ h) k
theorem ZE {m n : Nat} (h : m ≤ n) (k : ¬m < n) : m = n := Nat.le_antisymm h (Nat.le_of_not_lt k)
theorem ZF (n : Nat) : -(LIM : Int) ≤ (n : Int) := by lia
theorem ZG {o : Int} {P : Prop} (h : 0 ≤ o ∧ P) : o = (o.toNat : Int) := (Int.toNat_of_nonneg h.1).symm
theorem ZH {A : Prop} {z : Int} (h : A ∧ 0 ≤ z ∧ z ≤ 100) : z.toNat ≤ 1100 := by lia
theorem ZI {A B : Prop} {z : Int} (h : A ∧ 0 ≤ z ∧ B) : (z.toNat : Int) = z := Int.toNat_of_nonneg h.2.1
theorem ZJ {A : Prop} {z : Int} (h : A ∧ 0 ≤ z ∧ z ≤ 100) : 0 ≤ z ∧ z < 1000 := ⟨h.2.1, Int.lt_of_le_of_lt h.2.2 (by decide)⟩
theorem ZK {A B : Prop} {z : Int} (h : A ∧ B ∧ z ≤ 100) : z ≤ 1100 := Int.le_trans h.2.2 (by decide)
theorem ZL {B : Prop} {z : Nat} (h : z ≤ 1100 ∧ B) : (z : Int) ≤ 1100 := Int.ofNat_le.mpr h.1
theorem ZM {A : Prop} {z : Int} (h : A ∧ 0 ≤ z ∧ z ≤ 100) : z.toNat ≤ 100 := Int.toNat_le.mpr h.2.2
theorem ZN {v x L : Nat} (h : v = x) (k : x ≤ L) (l : L < 2 ^ 63) : (v : Int) < 2 ^ 63 := Int.ofNat_lt.mpr (h ▸ Nat.lt_of_le_of_lt k l)
theorem ZO {x L : Nat} (k : x ≤ L) (l : L < 2 ^ 63) : ¬(x : Int) ≥ 2 ^ 63 := Int.not_le.mpr (Int.ofNat_lt.mpr (Nat.lt_of_le_of_lt k l))
theorem ZP {x L : Nat} {i : Int} (k : x ≤ L) (l : L < 2 ^ 63) (h : i < x) : i < 2 ^ 63 := Int.lt_trans h (Int.ofNat_lt.mpr (Nat.lt_of_le_of_lt k l))
theorem ZQ {x L : Nat} {i : Int} (k : x ≤ L) (l : L < 2 ^ 63) (h : -(x : Int) ≤ i) : -2 ^ 63 ≤ i := by lia
theorem ZR {z : Nat} (h : z ≤ 1100) : (z : Int) ≤ 1100 := Int.ofNat_le.mpr h
theorem ZS {z : Nat} (h : 1 < z) : 1 < (z : Int) := Int.ofNat_lt.mpr h
theorem ZT {z : Nat} (h : ¬1 < z) : ¬1 < (z : Int) := mt Int.ofNat_lt.mp h
theorem ZU {a b c : Nat} (h : a + b ≤ c) (k : 0 < b) : a < c := Nat.lt_of_lt_of_le (Nat.lt_add_of_pos_right k) h
theorem ZV {a b c : Nat} (h : a + (b + 1) ≤ c) : a < c := Nat.lt_of_lt_of_le (Nat.lt_add_of_pos_right (Nat.succ_pos b)) h
theorem ZW {a b c : Nat} (h : a + (b + 1) ≤ c) : a + (0 + 1) + b ≤ c := by lia
theorem ZX {a b c d : Nat} (h : a + b + c ≤ d) : a ≤ d := Nat.le_trans (Nat.le_add_right a b) (Nat.le_trans (Nat.le_add_right _ c) h)
theorem ZY {a b c d e : Nat} (h : a + b + c + d ≤ e) : a ≤ e := ZX (Nat.le_trans (Nat.le_add_right _ d) h)
theorem ZZ {a b c : Nat} (h : a < b + 1) (k : c < a) : c < b := Nat.lt_of_lt_of_le k (Nat.le_of_lt_succ h)
theorem YA {i : Int} (h : 0 ≤ i) : -2 ^ 63 ≤ i := Int.le_trans (by decide) h
theorem YB {i : Int} (h : i < 0) : i < 2 ^ 63 := Int.lt_trans h (by decide)
theorem YC {i : Int} (h : i < 0) : -(i.natAbs : Int) = i := by lia
theorem YD {i : Int} (h : ¬i < 0) : (i.natAbs : Int) = i := by lia
theorem YE {i : Int} (h : 0 ≤ i) : (i.natAbs : Int) = i := by lia
theorem YF {a L : Nat} (h : a ≤ L) (k : L = 1048576) : (a : Int) ≤ L := Int.ofNat_le.mpr h
theorem YG {a n : Nat} (h : a ≤ 50) (k : n < a) : (n : Int) ≤ 100 := by lia
theorem YH (n : Nat) : ¬(n : Int) < 0 := Int.not_lt.mpr (Int.natCast_nonneg n)
theorem YI (a b : Nat) : a + 1 ≤ a + 3 + b := by lia
theorem YL {a n c : Nat} (h : a ≤ 50) (k : n + 1 ≤ a) (l : 50 ≤ c) : n ≤ c := Nat.le_trans (Nat.le_of_succ_le k) (Nat.le_trans h l)
theorem V5 {α : Type _} {a : α} {l : List α} : (a :: l)[0]? = some a := rfl
theorem V6 {α : Type _} {a : α} {l : List α} {i : Nat} : (a :: l)[i + 1]? = l[i]? := rfl
theorem V7 {α : Type _} {a b : α} {l : List α} : (a :: l).set 0 b = b :: l := rfl
theorem V8 {α : Type _} {a b : α} {l : List α} {i : Nat} : (a :: l).set (i + 1) b = a :: l.set i b := rfl
theorem V9 {α β : Type _} {f : α → β} {a : α} : (some a).map f = some (f a) := rfl
theorem W0 {α β : Type _} {f : α → Option β} {a : α} : (some a).bind f = f a := rfl
end Mine
end
section
open PySem PyProof.Rows
namespace Mine
set_option tactic.hygienic false
set_option autoImplicit false
noncomputable def Kp (fs : List Addr) (h h' : Heap) : Prop :=
  ∀ b o, h.get? b = some o → (b ∉ fs → h'.get? b = some o) ∧ ∃ sl, h'.get? b = some { o with slots := sl }
theorem Kp.refl (fs : List Addr) (h : Heap) : Kp fs h h := fun _ o e => ⟨fun _ => e, o.slots, e⟩
theorem Kp.of {fs : List Addr} {h h' : Heap} (k : ∀ b o, h.get? b = some o → h'.get? b = some o) : Kp fs h h' := fun b o e => ⟨fun _ => k b o e, o.slots, k b o e⟩
theorem Kp.trans {fs : List Addr} {h₁ h₂ h₃ : Heap} (x : Kp fs h₁ h₂) (y : Kp fs h₂ h₃) : Kp fs h₁ h₃ := fun b o e => by
  obtain ⟨x1, sl, x2⟩ := x b o e
  obtain ⟨_, sl', y2⟩ := y b _ x2
  exact ⟨fun hb => (y b o (x1 hb)).1 hb, sl', y2⟩
theorem Kp.push (fs : List Addr) (h : Heap) (o : Obj) : Kp fs h (h.push o) := .of fun _ _ e => Heap.get?_push_of_some _ e
theorem Kp.dom {fs : List Addr} {h h' : Heap} (x : Kp fs h h') {b : Addr} (e : h'.get? b = none) : h.get? b = none := by
  cases q : h.get? b with
  | none => rfl
  | some o => obtain ⟨_, sl, y⟩ := x b o q; rw [e] at y; cases y
theorem Kp.stay {fs : List Addr} {h h' : Heap} (x : Kp fs h h') {b : Addr} (e : h.get? b ≠ none) : h'.get? b ≠ none := fun q => e (x.dom q)
theorem Kp.ns {fs : List Addr} {h h' : Heap} (x : Kp fs h h') {a : Addr} {m : Str → Option Value} (n : h.Ns a m) : h'.Ns a m := by
  obtain ⟨o, es, ep, ho, hd, r⟩ := n
  obtain ⟨_, sl, y⟩ := x a o ho
  exact ⟨_, es, ep, y, hd, r⟩
theorem Kp.isCell {fs : List Addr} {h h' : Heap} (x : Kp fs h h') {c : Addr} {v : Option Value} (n : h.IsCell c v) : h'.IsCell c v := by
  obtain ⟨o, ho, hd⟩ := n
  obtain ⟨_, sl, y⟩ := x c o ho
  exact ⟨_, y, hd⟩
inductive KpS (fs : List Addr) (s s' : Shared) : Prop where
  | mk0 (h' : Heap) (tk : Nat) (e : s' = { s with heap := h', toks := tk }) (k : Kp fs s.heap h')
theorem KpS.refl (fs : List Addr) (s : Shared) : KpS fs s s := ⟨s.heap, s.toks, rfl, Kp.refl _ _⟩
theorem KpS.tok (fs : List Addr) (s : Shared) (t : Nat) : KpS fs s { s with toks := t } := ⟨s.heap, t, rfl, Kp.refl _ _⟩
theorem KpS.mk (fs : List Addr) (s : Shared) {h' : Heap} (t : Nat) (k : Kp fs s.heap h') : KpS fs s { s with heap := h', toks := t } := ⟨h', t, rfl, k⟩
theorem KpS.mk' (fs : List Addr) (s : Shared) {h' : Heap} (k : Kp fs s.heap h') : KpS fs s { s with heap := h' } := ⟨h', s.toks, rfl, k⟩
theorem KpS.trans {fs : List Addr} {s₁ s₂ s₃ : Shared} (x : KpS fs s₁ s₂) (y : KpS fs s₂ s₃) : KpS fs s₁ s₃ := by
  obtain ⟨h, tk, rfl, k⟩ := x
  obtain ⟨h', tk', rfl, k'⟩ := y
  exact ⟨h', tk', rfl, k.trans k'⟩
theorem KpS.heap {fs : List Addr} {s s' : Shared} (x : KpS fs s s') : Kp fs s.heap s'.heap := by
  obtain ⟨h, tk, rfl, k⟩ := x; exact k
set_option genCtorIdx false in
structure Cx where
  prog : Program
  w : World
  hG : Heap
  gt : List (Str × GK)
  G : Str → Option AV
  F : Nat → List AV → Option Res
  fa : Nat → Addr
  fresh : Nat → Bool
inductive SeqV (K : Addr → Array Value → Prop) (n : Nat) (P : List Value → Prop) (v : Value) : Prop where
  | mk (a : Addr) (vs : List Value) (e : v = .ref a) (hl : K a vs.toArray) (hz : n ≤ LIM) (hd : P vs)
inductive ConsV {α : Type} (P : α → Prop) (Q : List α → Prop) (vs : List α) : Prop where
  | mk (v : α) (t : List α) (e : vs = v :: t) (hp : P v) (hq : Q t)
noncomputable def DenI : List Int → List Value → Prop
  | [], vs => vs = []
  | x :: r, vs => ∃ t w, vs = .int x t :: w ∧ DenI r w
noncomputable def Ap : List (Int × Int) → List (Int × Value) → Prop
  | [], vs => vs = []
  | x :: r, vs => ∃ t w, vs = (x.1, .int x.2 t) :: w ∧ Ap r w
section
variable (c : Cx)
mutual
noncomputable def DenT (h : Heap) (bad : Addr → Prop) : AV → Value → Prop
  | .none, v => v = .none
  | .bool b, v => v = .bool b
  | .int i, v => ∃ t, v = .int i t
  | .str x, v => x.length ≤ LIM ∧ ∃ t, v = .str ⟨x.toArray⟩ t
  | .ilist xs, v => SeqV h.IsList xs.length (DenI xs) v
  | .list xs, v => SeqV h.IsList xs.length (DenL h bad xs) v
  | .tup xs, v => SeqV h.IsTuple xs.length (DenL h bad xs) v
  | .dict es, v => ∃ a kvs, v = .ref a ∧ h.DictOf (intKind c.prog c.w) a kvs ∧ es.length ≤ LIM ∧ Ap es kvs ∧ (a == sysModules) = false
noncomputable def DenL (h : Heap) (bad : Addr → Prop) : List AV → List Value → Prop
  | [], vs => vs = []
  | x :: r, vs => ConsV (fun v => DenT h bad x v ∧ ∀ a, v = .ref a → ¬ bad a) (DenL h bad r) vs
end
noncomputable def Den (h : Heap) (bad : Addr → Prop) (x : AV) (v : Value) : Prop := DenT c h bad x v ∧ ∀ a, v = .ref a → ¬ bad a
noncomputable def DenR (h : Heap) (bad : Addr → Prop) (fs : List Addr) (x : AV) (v : Value) : Prop := DenT c h bad x v ∧ ∀ a, v = .ref a → a ∉ fs
end
section
variable {c : Cx} {h h' : Heap} {bad bad' : Addr → Prop} {fs : List Addr}
structure Eo (h h' : Heap) (bad bad' : Addr → Prop) : Prop where
  keep : ∀ b o, ¬ bad b → h.get? b = some o → h'.get? b = some o
  nb : ∀ b, ¬ bad b → h.get? b ≠ none → ¬ bad' b
theorem DenT.there : ∀ (x : AV) (a : Addr), DenT c h bad x (.ref a) → h.get? a ≠ none
  | .none, _, e => by simp [DenT] at e
  | .bool b, _, e => by simp [DenT] at e
  | .int i, _, e => by simp [DenT] at e
  | .str x, _, e => by simp [DenT] at e
  | .ilist xs, a, e => by
    simp only [DenT] at e
    obtain ⟨a', vs, q, ⟨o, ho, _⟩, _⟩ := e
    cases q; rw [ho]; simp
  | .list xs, a, e => by
    simp only [DenT] at e
    obtain ⟨a', vs, q, ⟨o, ho, _⟩, _⟩ := e
    cases q; rw [ho]; simp
  | .tup xs, a, e => by
    simp only [DenT] at e
    obtain ⟨a', vs, q, ⟨o, ho, _⟩, _⟩ := e
    cases q; rw [ho]; simp
  | .dict es, a, e => by
    simp only [DenT] at e
    obtain ⟨a', kvs, q, ⟨o, ess, ep, ho, _⟩, _⟩ := e
    cases q; rw [ho]; simp
mutual
theorem DenT.carryTop (k : Eo h h' bad bad') : ∀ (x : AV) (v : Value), DenT c h bad x v → (∀ a o, v = .ref a → h.get? a = some o → h'.get? a = some o) → DenT c h' bad' x v
  | .none, _, e, _ => by simpa only [DenT] using e
  | .bool b, _, e, _ => by simpa only [DenT] using e
  | .int i, _, e, _ => by simpa only [DenT] using e
  | .str x, _, e, _ => by simpa only [DenT] using e
  | .ilist xs, v, e, t => by
    simp only [DenT] at e ⊢
    obtain ⟨a, vs, rfl, hl, hs, hd⟩ := e
    exact ⟨a, vs, rfl, hl.at fun o q => t a o rfl q, hs, hd⟩
  | .list xs, v, e, t => by
    simp only [DenT] at e ⊢
    obtain ⟨a, vs, rfl, hl, hs, hd⟩ := e
    exact ⟨a, vs, rfl, hl.at fun o q => t a o rfl q, hs, DenL.carry k xs vs hd⟩
  | .tup xs, v, e, t => by
    simp only [DenT] at e ⊢
    obtain ⟨a, vs, rfl, hl, hs, hd⟩ := e
    exact ⟨a, vs, rfl, hl.at fun o q => t a o rfl q, hs, DenL.carry k xs vs hd⟩
  | .dict es, v, e, t => by
    simp only [DenT] at e ⊢
    obtain ⟨a, kvs, rfl, ⟨o, ess, ep, ho, r⟩, hs, hd⟩ := e
    exact ⟨a, kvs, rfl, ⟨o, ess, ep, t a o rfl ho, r⟩, hs, hd⟩
theorem DenL.carry (k : Eo h h' bad bad') : ∀ (xs : List AV) (vs : List Value), DenL c h bad xs vs → DenL c h' bad' xs vs
  | [], _, e => by simpa only [DenL] using e
  | x :: r, vs, e => by
    simp only [DenL] at e ⊢
    obtain ⟨v, t, rfl, ⟨hd, hb⟩, hr⟩ := e
    refine ⟨v, t, rfl, ⟨DenT.carryTop k x v hd fun a o e q => k.keep a o (hb a e) q, fun a e => ?_⟩, DenL.carry k r t hr⟩
    subst e
    refine k.nb a (hb a rfl) ?_
    exact DenT.there x a hd
end
end
section
variable {c : Cx} {h h' : Heap} {bad bad' : Addr → Prop} {fs : List Addr}
theorem Den.carry {x : AV} {v : Value} (d : Den c h bad x v) (k : Eo h h' bad bad') : Den c h' bad' x v :=
  ⟨DenT.carryTop k x v d.1 fun a o e q => k.keep a o (d.2 a e) q, fun a e => k.nb a (d.2 a e) (by subst e; exact DenT.there x a d.1)⟩
theorem Eo.kp (k : Kp fs h h') (hf : ∀ b ∈ fs, bad b) : Eo h h' bad bad := ⟨fun b o hb e => (k b o e).1 fun q => hb (hf b q), fun _ hb _ => hb⟩
theorem Den.kp {x : AV} {v : Value} (d : Den c h bad x v) (k : Kp fs h h') (hf : ∀ b ∈ fs, bad b) : Den c h' bad x v := d.carry (.kp k hf)
theorem DenL.kp {xs : List AV} {vs : List Value} (d : DenL c h bad xs vs) (k : Kp fs h h') (hf : ∀ b ∈ fs, bad b) : DenL c h' bad xs vs := DenL.carry (.kp k hf) _ _ d
theorem DenR.kp {x : AV} {v : Value} (d : DenR c h bad fs x v) (k : Kp fs h h') (hf : ∀ b ∈ fs, bad b) : DenR c h' bad fs x v :=
  ⟨DenT.carryTop (.kp k hf) x v d.1 fun a o e q => (k a o q).1 (d.2 a e), d.2⟩
theorem Den.r {x : AV} {v : Value} (d : Den c h bad x v) (hf : ∀ b ∈ fs, bad b) : DenR c h bad fs x v := ⟨d.1, fun a e q => d.2 a e (hf a q)⟩
theorem DenR.den {x : AV} {v : Value} (d : DenR c h bad fs x v) (hb : ∀ a, v = .ref a → ¬ bad a) : Den c h bad x v := ⟨d.1, hb⟩
theorem Den.plain {x : AV} {v : Value} (d : DenT c h bad x v) (hv : ∀ a, v ≠ .ref a) : Den c h bad x v := ⟨d, fun a e => absurd e (hv a)⟩
theorem DenL.length : ∀ {xs : List AV} {vs : List Value}, DenL c h bad xs vs → vs.length = xs.length
  | [], vs, e => by simp only [DenL] at e; subst e; rfl
  | x :: r, vs, e => by
    simp only [DenL] at e
    obtain ⟨v, t, rfl, _, hr⟩ := e
    simp [hr.length]
theorem DenL.get : ∀ {xs : List AV} {vs : List Value}, DenL c h bad xs vs → ∀ {i : Nat} {x : AV}, xs[i]? = some x → ∃ v, vs[i]? = some v ∧ Den c h bad x v
  | [], vs, e, i, x, hx => by simp at hx
  | y :: r, vs, e, i, x, hx => by
    simp only [DenL] at e
    obtain ⟨v, t, rfl, hd, hr⟩ := e
    cases i with
    | zero => simp at hx; subst hx; exact ⟨v, rfl, hd⟩
    | succ i => simp at hx; obtain ⟨u, hu, hd⟩ := hr.get hx; exact ⟨u, by simpa using hu, hd⟩
theorem DenL.append : ∀ {xs ys : List AV} {vs ws : List Value}, DenL c h bad xs vs → DenL c h bad ys ws → DenL c h bad (xs ++ ys) (vs ++ ws)
  | [], ys, vs, ws, e, e' => by simp only [DenL] at e; subst e; exact e'
  | x :: r, ys, vs, ws, e, e' => by
    simp only [DenL, List.cons_append] at e ⊢
    obtain ⟨v, t, rfl, hd, hr⟩ := e
    exact ⟨v, t ++ ws, rfl, hd, hr.append e'⟩
theorem DenL.take : ∀ (n : Nat) {xs : List AV} {vs : List Value}, DenL c h bad xs vs → DenL c h bad (xs.take n) (vs.take n)
  | 0, xs, vs, _ => by simp [DenL]
  | n + 1, [], vs, e => by simp only [DenL] at e; subst e; simp [DenL]
  | n + 1, x :: r, vs, e => by
    simp only [DenL] at e
    obtain ⟨v, t, rfl, hd, hr⟩ := e
    simp only [List.take_succ_cons, DenL]
    exact ⟨v, _, rfl, hd, hr.take n⟩
theorem DenL.drop : ∀ (n : Nat) {xs : List AV} {vs : List Value}, DenL c h bad xs vs → DenL c h bad (xs.drop n) (vs.drop n)
  | 0, xs, vs, e => by simpa using e
  | n + 1, [], vs, e => by simp only [DenL] at e; subst e; simp [DenL]
  | n + 1, x :: r, vs, e => by
    simp only [DenL] at e
    obtain ⟨v, t, rfl, hd, hr⟩ := e
    simpa using hr.drop n
theorem DenI.length : ∀ {xs : List Int} {vs : List Value}, DenI xs vs → vs.length = xs.length
  | [], vs, e => by simp only [DenI] at e; subst e; rfl
  | x :: r, vs, e => by
    simp only [DenI] at e
    obtain ⟨v, t, rfl, hr⟩ := e
    simp [hr.length]
theorem DenI.get : ∀ {xs : List Int} {vs : List Value}, DenI xs vs → ∀ {i : Nat} {x : Int}, xs[i]? = some x → ∃ t, vs[i]? = some (.int x t)
  | [], vs, e, i, x, hx => by simp at hx
  | y :: r, vs, e, i, x, hx => by
    simp only [DenI] at e
    obtain ⟨t, w, rfl, hr⟩ := e
    cases i with
    | zero => simp at hx; subst hx; exact ⟨t, rfl⟩
    | succ i => simp at hx; obtain ⟨u, hu⟩ := hr.get hx; exact ⟨u, by simpa using hu⟩
theorem DenI.append : ∀ {xs ys : List Int} {vs ws : List Value}, DenI xs vs → DenI ys ws → DenI (xs ++ ys) (vs ++ ws)
  | [], ys, vs, ws, e, e' => by simp only [DenI] at e; subst e; exact e'
  | x :: r, ys, vs, ws, e, e' => by
    simp only [DenI, List.cons_append] at e ⊢
    obtain ⟨t, w, rfl, hr⟩ := e
    exact ⟨t, w ++ ws, rfl, hr.append e'⟩
theorem DenI.take : ∀ (n : Nat) {xs : List Int} {vs : List Value}, DenI xs vs → DenI (xs.take n) (vs.take n)
  | 0, xs, vs, _ => by simp [DenI]
  | n + 1, [], vs, e => by simp only [DenI] at e; subst e; simp [DenI]
  | n + 1, x :: r, vs, e => by
    simp only [DenI] at e
    obtain ⟨t, w, rfl, hr⟩ := e
    simp only [List.take_succ_cons, DenI]
    exact ⟨t, _, rfl, hr.take n⟩
theorem DenI.drop : ∀ (n : Nat) {xs : List Int} {vs : List Value}, DenI xs vs → DenI (xs.drop n) (vs.drop n)
  | 0, xs, vs, e => by simpa using e
  | n + 1, [], vs, e => by simp only [DenI] at e; subst e; simp [DenI]
  | n + 1, x :: r, vs, e => by
    simp only [DenI] at e
    obtain ⟨t, w, rfl, hr⟩ := e
    simpa using hr.drop n
theorem DenI.denL : ∀ {xs : List Int} {vs : List Value}, DenI xs vs → DenL c h bad (xs.map .int) vs
  | [], vs, e => by simp only [DenI] at e; subst e; simp [DenL]
  | x :: r, vs, e => by
    simp only [DenI] at e
    obtain ⟨t, w, rfl, hr⟩ := e
    simp only [List.map_cons, DenL]
    exact ⟨_, w, rfl, ⟨by simp [DenT], by intro a e; cases e⟩, hr.denL⟩
set_option tactic.hygienic true in
theorem DenI.of_denL : ∀ {ys : List AV} {xs : List Int} {vs : List Value}, Hk ys = some xs → DenL c h bad ys vs → DenI xs vs
  | [], xs, vs, e, d => by obtain rfl := Option.some.inj e; simpa only [DenL, DenI] using d
  | y :: r, xs, vs, e, d => by
    cases y <;> first | exact (nS e).elim | skip
    rw [io_c] at e
    rename_i i
    cases q : Hk r with
    | none => rw [q] at e; cases e
    | some is =>
      rw [q] at e
      simp at e; subst e
      simp only [DenL, DenT] at d
      obtain ⟨v, t, rfl, ⟨⟨tk, rfl⟩, _⟩, hr⟩ := d
      simp only [DenI]
      exact ⟨tk, t, rfl, DenI.of_denL q hr⟩
theorem Kg : ∀ {ys : List AV} {xs : List Int}, Hk ys = some xs → xs.length = ys.length
  | [], xs, e => by obtain rfl := Option.some.inj e; rfl
  | y :: r, xs, e => by
    cases y <;> first | exact (nS e).elim | skip
    rw [io_c] at e
    cases q : Hk r with
    | none => rw [q] at e; cases e
    | some is => rw [q] at e; simp at e; subst e; simp [Kg q]
theorem den_mkL {ys : List AV} {vs : List Value} {a : Addr} (hl : h.IsList a vs.toArray) (hd : DenL c h bad ys vs) (hs : ys.length ≤ LIM) : DenT c h bad (mkL ys) (.ref a) := by
  unfold mkL
  cases q : Hk ys with
  | none => simp only [DenT]; exact ⟨a, vs, rfl, hl, hs, hd⟩
  | some xs => simp only [DenT]; exact ⟨a, vs, rfl, hl, by rw [Kg q]; exact hs, DenI.of_denL q hd⟩
end
noncomputable def GlobIs (h : Heap) (x : Str) (v : Value) : Prop :=
  ∃ mg mb, h.Ns mainGlobals mg ∧ h.Ns builtinsNs mb ∧ (mg x = some v ∨ (mg x = none ∧ mb x = some v))
noncomputable def Hy (c : Cx) (x : Str) : GK → Value → Prop
  | .fn i _, v => v = .ref (c.fa i) ∧ ∃ o fd, c.hG.get? (c.fa i) = some o ∧ o.data = .func fd
  | .bi id, v => v = .builtin id
  | .ty n, v => v = .type n
  | .tab, v => ∀ av, c.G x = some av → Den c c.hG (fun _ => False) av v
set_option genCtorIdx false in
structure Cx.Ok (c : Cx) : Prop where
  glob : ∀ x k, c.gt.lookup x = some k → ∃ v, GlobIs c.hG x v ∧ Hy c x k v
  nolimit : c.hG.NoLimit
  seer : c.hG.NoSeer
  tree : c.prog.given.tree = none
  digits : ∃ mc, c.hG.Ns cStatics mc ∧ mc "sys.int_max_str_digits" = none
noncomputable def Ac (A : Around) : List Addr := (A.frames.getD []).filterMap (·.frame)
structure Room (A : Around) (d : Nat) : Prop where
  handled : A.handled = none
  depth : A.depth + d + 110 < recursionLimit
  units : A.units + 4 * d + 100 < cLine
  frames : ∃ env l, A.frames = some (env :: l) ∧ env.scope.isGenerator = false ∧ env.scope.isCoroutine = false ∧ env.builtins = builtinsNs ∧ env.globals = mainGlobals
noncomputable def Ho (env : Env) (h : Heap) (x : Str) (v : Value) : Prop :=
  (env.kindOf x = some .local ∧ ∃ m, h.Ns env.locals m ∧ m x = some v) ∨ (env.kindOf x = some .cell ∧ ∃ a, env.cells.lookup x = some a ∧ h.IsCell a (some v))
theorem Ho.kp {fs : List Addr} {env : Env} {h h' : Heap} {x : Str} {v : Value} (l : Ho env h x v) (k : Kp fs h h') : Ho env h' x v := by
  rcases l with ⟨e, m, n, q⟩ | ⟨e, a, q, n⟩
  · exact .inl ⟨e, m, k.ns n, q⟩
  · exact .inr ⟨e, a, q, k.isCell n⟩
noncomputable def FrOk (A : Around) (h : Heap) : Prop := ∀ l, A.frames = some l → ∀ env ∈ l, env.scope.kind ≠ .module ∧ ∃ L o, env.frame = some L ∧ h.get? L = some o ∧ ∀ vs, o.data ≠ .fields vs
theorem FrOk.kp {A : Around} {fs : List Addr} {h h' : Heap} (x : FrOk A h) (k : Kp fs h h') : FrOk A h' := fun l hl env he => by
  obtain ⟨h1, L, o, h2, h3, h4⟩ := x l hl env he
  obtain ⟨_, sl, h5⟩ := k L o h3
  exact ⟨h1, L, _, h2, h5, h4⟩
inductive VarV (c : Cx) (A : Around) (env : Env) (bad : Addr → Prop) (h : Heap) (x : Str) (own : Bool) (av : AV) : Prop where
  | mk (v : Value) (l : Ho env h x v) (d : DenR c h bad (Ac A) av v) (n : own = false → ∀ a, v = .ref a → ¬ bad a)
structure EVis (c : Cx) (A : Around) (ce : CE) (env : Env) (σ : St) (bad : Addr → Prop) (h : Heap) : Prop where
  kind : env.scope.kind = .function
  globs : env.globals = mainGlobals
  blts : env.builtins = builtinsNs
  gk : ∀ x, ce.scope.names.lookup x = some .globalImplicit → env.kindOf x = some .globalImplicit
  ck : ∀ x, ce.scope.names.lookup x = some .cell → env.kindOf x = some .cell ∧ ∃ a, env.cells.lookup x = some a
  ground : ∀ b o, c.hG.get? b = some o → h.get? b = some o
  badG : ∀ b, bad b → c.hG.get? b = none
  badD : ∀ b, bad b → h.get? b ≠ none
  fsb : ∀ b ∈ Ac A, bad b
  fr : FrOk A h
  n : ce.n = σ.length
  gt : ce.gt = c.gt
  vb : ∀ x i, ce.vm.lookup x = some i → i < ce.n
  var : ∀ x i own av, ce.vm.lookup x = some i → σ[i]? = some (some (own, av)) → VarV c A env bad h x own av
theorem EVis.kp {c : Cx} {A : Around} {ce : CE} {env : Env} {σ : St} {bad : Addr → Prop} {h h' : Heap} (x : EVis c A ce env σ bad h) (k : Kp (Ac A) h h') : EVis c A ce env σ bad h' where
  kind := x.kind
  globs := x.globs
  blts := x.blts
  gk := x.gk
  ck := x.ck
  ground := fun b o e => (k b o (x.ground b o e)).1 fun q => by first | exact (nN (x.badG b (x.fsb b q)) e).elim | (rw [x.badG b (x.fsb b q)] at e; cases e)
  badG := x.badG
  badD := fun b hb => k.stay (x.badD b hb)
  fsb := x.fsb
  fr := x.fr.kp k
  n := x.n
  gt := x.gt
  vb := x.vb
  var := fun y i own av h1 h2 => by
    obtain ⟨v, l, d, n⟩ := x.var y i own av h1 h2
    exact ⟨v, l.kp k, d.kp k x.fsb, n⟩
noncomputable def PE (c : Cx) (fs : List Addr) (bad : Addr → Prop) (cap fr : Bool) (s : Shared) (z : AV) (r : Value) (s' : Shared) : Prop :=
  KpS fs s s' ∧ DenR c s'.heap bad fs z r ∧ (cap = true → ∀ a, r = .ref a → ¬ bad a) ∧ (fr = true → ∀ a, r = .ref a → s.heap.get? a = none)
section
variable {c : Cx} {fs : List Addr} {bad : Addr → Prop} {cap fr : Bool} {s s' : Shared}
theorem PE.plain {z : AV} {r : Value} (k : KpS fs s s') (d : DenT c s'.heap bad z r) (hr : ∀ a, r ≠ .ref a) : PE c fs bad cap fr s z r s' :=
  ⟨k, ⟨d, fun a e => absurd e (hr a)⟩, fun _ a e => absurd e (hr a), fun _ a e => absurd e (hr a)⟩
theorem PE.int {i : Int} {t : Tok} (k : KpS fs s s') : PE c fs bad cap fr s (.int i) (.int i t) s' := .plain k (by simp [DenT]) (by intro a e; cases e)
theorem PE.bool {b : Bool} (k : KpS fs s s') : PE c fs bad cap fr s (.bool b) (.bool b) s' := .plain k (by simp [DenT]) (by intro a e; cases e)
theorem PE.vnone (k : KpS fs s s') : PE c fs bad cap fr s .none .none s' := .plain k (by simp [DenT]) (by intro a e; cases e)
theorem PE.str {x : List Nat} {t : Tok} (k : KpS fs s s') (hx : x.length ≤ LIM) : PE c fs bad cap fr s (.str x) (.str ⟨x.toArray⟩ t) s' := .plain k (by simp only [DenT]; exact ⟨hx, t, rfl⟩) (by intro a e; cases e)
theorem PE.there {z : AV} {r : Value} (k : KpS fs s s') (hf : ∀ b ∈ fs, bad b) (d : Den c s'.heap bad z r) : PE c fs bad cap false s z r s' :=
  ⟨k, d.r hf, fun _ => d.2, fun e => by cases e⟩
theorem PE.new {z : AV} {a : Addr} (k : KpS fs s s') (hf : ∀ b ∈ fs, bad b) (hb : ∀ b, bad b → s.heap.get? b ≠ none) (hn : s.heap.get? a = none) (d : DenT c s'.heap bad z (.ref a)) : PE c fs bad cap fr s z (.ref a) s' := by
  have nb : ¬ bad a := fun q => hb a q hn
  exact ⟨k, ⟨d, fun b e q => by cases e; exact nb (hf _ q)⟩, fun _ b e => by cases e; exact nb, fun _ b e => by cases e; exact hn⟩
end
end Mine
end
section
open PySem PyProof.Rows
namespace Mine
set_option tactic.hygienic false
set_option autoImplicit false
theorem lim_lt : LIM < 2 ^ 63 := by decide
theorem Em : LIM ≤ sizeLine := by unfold sizeLine; decide
section
variable {c : Cx} {A : Around} {bad : Addr → Prop} {fs : List Addr} {s : Shared}
structure At (c : Cx) (A : Around) (bad : Addr → Prop) (fs : List Addr) (s : Shared) : Prop where
  ok : c.Ok
  room : Room A 0
  ground : ∀ b o, c.hG.get? b = some o → s.heap.get? b = some o
  badD : ∀ b, bad b → s.heap.get? b ≠ none
  fsb : ∀ b ∈ fs, bad b
theorem At.pylong (h : At c A bad fs s) : PylongRoom (model c.prog c.w) A s := by
  obtain ⟨env, l, h1, h2, h3, h4, h5⟩ := h.room.frames
  refine PylongRoom.of (h.ok.nolimit.keeps h.ground) (by have := h.room.depth; unfold Builtin.pylongFrames; lia) ?_
  exact SeerAt.of (h.ok.seer.keeps h.ground) h.ok.tree h1 h2 h3 h4 h5
theorem str_append (x y : List Nat) : (⟨x.toArray⟩ : Str) ++ (⟨y.toArray⟩ : Str) = ⟨(x ++ y).toArray⟩ := by
  show Str.append _ _ = _
  simp [Str.append]
theorem DenI.rep : ∀ (n : Nat) {xs : List Int} {vs : List Value}, DenI xs vs → DenI (List.replicate n xs).flatten (List.replicate n vs).flatten
  | 0, _, _, _ => by simp [DenI]
  | n + 1, xs, vs, h => by
    simp only [List.replicate_succ, List.flatten_cons]
    exact h.append (h.rep n)
theorem DenL.rep {h : Heap} : ∀ (n : Nat) {xs : List AV} {vs : List Value}, DenL c h bad xs vs → DenL c h bad (List.replicate n xs).flatten (List.replicate n vs).flatten
  | 0, _, _, _ => by simp [DenL]
  | n + 1, xs, vs, h => by
    simp only [List.replicate_succ, List.flatten_cons]
    exact h.append (h.rep n)
theorem Az (h : Heap) : h.get? h.objs.size = none := Heap.get?_none_of_le (Nat.le_refl _)
theorem PE.newL {cap fr : Bool} {vs : List Value} {z : AV} {n : Nat} (a : At c A bad fs s) (hz : DenT c (s.heap.push { cls := .type "list", data := .seq vs.toArray n }) bad z (.ref s.heap.objs.size)) :
    PE c fs bad cap fr s z (.ref s.heap.objs.size) { s with heap := s.heap.push { cls := .type "list", data := .seq vs.toArray n } } :=
  .new (.mk' _ _ (Kp.push _ _ _)) a.fsb a.badD (Az _) hz
theorem Bg (h : Heap) (vs : List Value) (n : Nat) : (h.push { cls := .type "list", data := .seq vs.toArray n }).IsList h.objs.size vs.toArray :=
  ⟨_, Heap.get?_push_size _ rfl, rfl, n, rfl⟩
theorem isTuple_push (h : Heap) (vs : List Value) (n : Nat) : (h.push { cls := .type "tuple", data := .seq vs.toArray n }).IsTuple h.objs.size vs.toArray :=
  ⟨_, Heap.get?_push_size _ rfl, rfl, n, rfl⟩
theorem Ie {l b : Addr} {vs ws : List Value} {Q : Value → Shared → Prop} {E : Value → Shared → Prop} (hl : s.heap.IsList l vs.toArray) (hb : s.heap.IsList b ws.toArray)
    (h : Q (.ref s.heap.objs.size) { s with heap := s.heap.push { cls := .type "list", data := .seq (vs ++ ws).toArray } }) (hsz : vs.length + ws.length ≤ sizeLine) :
    wpAny (model c.prog c.w) A (binaryOp .Add (.ref l) (.ref b)) Q E s := by
  obtain ⟨⟨cls, dd, data, sl⟩, ho, hc, n, hd⟩ := id hl
  obtain ⟨⟨cls2, dd2, data2, sl2⟩, ho2, hc2, n2, hd2⟩ := id hb
  simp only at hc hd hc2 hd2
  subst hc hd hc2 hd2
  have e : vs.toArray ++ ws.toArray = (vs ++ ws).toArray := by simp
  refine concat_meets ⟨_, ho, rfl⟩ ⟨_, ho2, rfl⟩ noFill_list_add seq_list_add PySem.F.slot_list_add PySem.F.entry_list_add (PySem.F.args_list_add_2 _ _) (list_addW l b vs.toArray ws.toArray n n2 dd dd2 sl sl2 (by simpa using hsz)) ⟨ho, ho2, ?_⟩
  rw [e]
  exact h
theorem mul_list_ok {l : Addr} {vs : List Value} {x : Int} {u : Tok} {Q : Value → Shared → Prop} {E : Value → Shared → Prop} (hl : s.heap.IsList l vs.toArray)
    (hlo : -(2 ^ 63 : Int) ≤ x) (hhi : x < 2 ^ 63) (hsz : vs.length * x.toNat ≤ 2 ^ 24)
    (h : Q (.ref s.heap.objs.size) { s with heap := s.heap.push { cls := .type "list", data := .seq (List.replicate x.toNat vs).flatten.toArray } }) :
    wpAny (model c.prog c.w) A (binaryOp .Mult (.ref l) (.int x u)) Q E s := by
  obtain ⟨⟨cls, d, data, sl⟩, ho, hcl, k, hd⟩ := id hl
  simp only at hcl hd
  subst hcl hd
  have hsz' : vs.toArray.size * x.toNat ≤ 2 ^ 24 := by simpa using hsz
  refine wpAny_binaryOp_repeat_ref (T := "list") (U := "int") (by decide) ⟨_, ho, rfl⟩ (fun s' => typeIs_int s' x u) noFill_list_mul F.fills_int_mul F.slot_int_rmul repeat_list F.slot_int_index.lookup
    (call_meets F.slot_int_rmul (typeIs_int s x u) F.entry_int_rmul (F.args_int_rmul_2 _ _) (lm_int_rmul_list_any x u l vs.toArray k d sl)
      ⟨ho, rfl, ⟨_, ho, rfl⟩, call_meets F.slot_list_mul ⟨_, ho, rfl⟩ F.entry_list_mul (F.args_list_mul_2 _ _)
        (lm_list_mul_any l vs.toArray k d sl x u (by simp [Builtin.List.listFitsIndex]; lia) (by lia) (by simp [Builtin.List.listTooLong, sizeLine]; assumption))
        ⟨ho, ?_⟩⟩)
  rw [listMul_foldl_if]
  exact h
theorem Kf {o : Obj} : KpS fs s { s with heap := s.heap.push o } := .mk' _ _ (Kp.push _ _ _)
noncomputable def opOf : BOp → Operator
  | .add => .Add | .sub => .Sub | .mul => .Mult | .fdiv => .FloorDiv | .mod => .Mod | .pow => .Pow
theorem DenL.push {h : Heap} {xs : List AV} {vs : List Value} (d : DenL c h bad xs vs) (o : Obj) : DenL c (h.push o) bad xs vs :=
  DenL.carry ⟨fun b o' _ e => Heap.get?_push_of_some _ e, fun _ hb _ => hb⟩ _ _ d
theorem flat_foldl (n : Nat) (x : List Nat) : ∀ acc : Array Nat, (List.replicate n x.toArray).foldl (· ++ ·) acc = acc ++ (List.replicate n x).flatten.toArray := by
  induction n with
  | zero => intro acc; simp
  | succ n ih => intro acc; simp only [List.replicate_succ, List.foldl_cons, ih, List.flatten_cons]; simp
set_option tactic.hygienic true in
theorem txt_mul (x : List Nat) (n : Int) (h : 0 ≤ n) : Txt.mul ⟨x.toArray⟩ n = ⟨(List.replicate n.toNat x).flatten.toArray⟩ := by
  unfold Txt.mul
  by_cases h1 : n < 1
  · rw [if_pos h1]
    have : n.toNat = 0 := by lia
    rw [this]; rfl
  · rw [if_neg h1]
    split
    · rename_i q
      simp only [Bool.or_eq_true, beq_iff_eq, Str.length, List.size_toArray] at q
      rcases q with q | q
      · subst q; simp
      · have : x = [] := List.eq_nil_of_length_eq_zero q
        subst this; simp
    · rw [flat_foldl]; simp
theorem mul_ok_str {x : List Nat} {n : Int} (h0 : 0 ≤ n) (h1 : n ≤ LIM) (h2 : x.length * n.toNat ≤ LIM) : MulOk ⟨x.toArray⟩ n := by
  have e : (LIM : Int) = 1048576 := rfl
  refine ⟨?_, fun h3 _ => ?_, fun h3 _ => ?_⟩
  · simp; lia
  · simp only [Str.length, List.size_toArray]
    have h4 : (x.length : Int) * n ≤ LIM := by
      have : ((x.length * n.toNat : Nat) : Int) ≤ (LIM : Int) := by exact_mod_cast h2
      rw [Int.natCast_mul, Int.toNat_of_nonneg h0] at this; exact this
    have h5 : (x.length : Int) ≤ 1048576 := by
      have : (x.length : Int) * 1 ≤ (x.length : Int) * n := Int.mul_le_mul_of_nonneg_left (by exact Int.not_lt.mp ‹_›) (by exact Int.natCast_nonneg _)
      lia
    have h6 : (1048576 : Int) ≤ (2 ^ 63 - 1) / n := by
      apply Int.le_ediv_of_mul_le (by lia)
      lia
    lia
  · simp only [Builtin.Str.tooLong, Str.length, List.size_toArray, decide_eq_false_iff_not, Nat.not_lt]
    have := Em
    with_reducible exact Nat.le_trans ‹_› ‹_›
theorem binop_ok {op : BOp} {x y z : AV} {v u : Value} (a : At c A bad fs s) (e : Ab op x y = some z) (dx : DenR c s.heap bad fs x v) (dy : DenR c s.heap bad fs y u) (cap fr : Bool) :
    wpAny (model c.prog c.w) A (binaryOp (opOf op) v u) (PE c fs bad cap fr s z) (fun _ _ => False) s := by
  have dx := dx.1
  have dy := dy.1
  have hline := Em
  cases op <;> cases x <;> first | exact (nS e).elim | (cases y <;> first | exact (nS e).elim | skip)
  · -- int + int
    simp only [DenT] at dx dy; obtain ⟨t, rfl⟩ := dx; obtain ⟨t', rfl⟩ := dy; obtain rfl := Option.some.inj e
    exact P.add_int (.int (.tok ..))
  · -- str + str
    obtain ⟨hlen, rfl⟩ := iS e
    simp only [DenT] at dx dy; obtain ⟨h1, t, rfl⟩ := dx; obtain ⟨h2, t', rfl⟩ := dy
    refine add_str (fun t' tk => ?_) (by simp only [Str.length, List.size_toArray]; with_reducible exact Nat.le_trans ‹_› ‹_›)
    rw [str_append]
    exact .str (.tok ..) (by simpa using hlen)
  · obtain ⟨hlen, rfl⟩ := iS e
    simp only [DenT] at dx dy
    obtain ⟨p, vs, rfl, hl, h1, hd⟩ := dx; obtain ⟨q, ws, rfl, hl', h2, hd'⟩ := dy
    refine Ie hl hl' ?_ (by rw [hd.length, hd'.length]; with_reducible exact Nat.le_trans ‹_› ‹_›)
    refine PE.newL a ?_
    simp only [DenT]
    exact ⟨_, _, rfl, Bg .., by simpa using hlen, hd.append hd'⟩
  · obtain ⟨hlen, rfl⟩ := iS e
    simp only [DenT] at dx dy
    obtain ⟨p, vs, rfl, hl, h1, hd⟩ := dx; obtain ⟨q, ws, rfl, hl', h2, hd'⟩ := dy
    refine Ie hl hl' ?_ (by rw [hd.length, hd'.length]; with_reducible exact Nat.le_trans ‹_› ‹_›)
    refine PE.newL a ?_
    simp only [DenT]
    exact ⟨_, _, rfl, Bg .., by simpa using hlen, (hd.denL.append hd').push _⟩
  · obtain ⟨hlen, rfl⟩ := iS e
    simp only [DenT] at dx dy
    obtain ⟨p, vs, rfl, hl, h1, hd⟩ := dx; obtain ⟨q, ws, rfl, hl', h2, hd'⟩ := dy
    refine Ie hl hl' ?_ (by rw [hd.length, hd'.length]; with_reducible exact Nat.le_trans ‹_› ‹_›)
    refine PE.newL a ?_
    simp only [DenT]
    exact ⟨_, _, rfl, Bg .., by simpa using hlen, (hd.append hd'.denL).push _⟩
  · obtain ⟨hlen, rfl⟩ := iS e
    simp only [DenT] at dx dy
    obtain ⟨p, vs, rfl, hl, h1, hd⟩ := dx; obtain ⟨q, ws, rfl, hl', h2, hd'⟩ := dy
    refine Ie hl hl' ?_ (by rw [hd.length, hd'.length]; with_reducible exact Nat.le_trans ‹_› ‹_›)
    refine PE.newL a ?_
    simp only [DenT]
    exact ⟨_, _, rfl, Bg .., by simpa using hlen, (hd.append hd').push _⟩
  · simp only [DenT] at dx dy; obtain ⟨t, rfl⟩ := dx; obtain ⟨t', rfl⟩ := dy; obtain rfl := Option.some.inj e
    exact P.sub_int (.int (.tok ..))
  · obtain ⟨hm, rfl⟩ := iS e
    simp only [DenT] at dx dy; obtain ⟨t, rfl⟩ := dx; obtain ⟨t', rfl⟩ := dy
    refine P.mul_int (.int (.tok ..)) ?_
    unfold IntMulOk
    intro q
    unfold Bd at hm
    rw [q] at hm
    cases hm
  · -- str * int
    obtain ⟨hlen, rfl⟩ := iS e
    simp only [DenT] at dx dy; obtain ⟨h1, t, rfl⟩ := dx; obtain ⟨t', rfl⟩ := dy
    exact SB.mul (mul_ok_str hlen.1 hlen.2.1 hlen.2.2) fun t' k => by rw [txt_mul _ _ hlen.1]; exact .str (.tok ..) (by rw [lm_len_rep_flat, Nat.mul_comm]; exact hlen.2.2)
  · obtain ⟨hlen, rfl⟩ := iS e
    simp only [DenT] at dx dy
    obtain ⟨p, vs, rfl, hl, h1, hd⟩ := dx; obtain ⟨t', rfl⟩ := dy
    have := hlen.2.1
    have hz := hlen.2.2
    rw [← hd.length] at hz
    refine mul_list_ok hl (by lia) (by have := lim_lt; lia) (Nat.le_trans hz (show LIM ≤ 2 ^ 24 by decide)) ?_
    refine PE.newL a ?_
    simp only [DenT]
    exact ⟨_, _, rfl, Bg .., by rw [lm_len_rep_flat, Nat.mul_comm]; exact hlen.2.2, hd.rep _⟩
  · obtain ⟨hlen, rfl⟩ := iS e
    simp only [DenT] at dx dy
    obtain ⟨p, vs, rfl, hl, h1, hd⟩ := dx; obtain ⟨t', rfl⟩ := dy
    have := hlen.2.1
    have hz := hlen.2.2
    rw [← hd.length] at hz
    refine mul_list_ok hl (by lia) (by have := lim_lt; lia) (Nat.le_trans hz (show LIM ≤ 2 ^ 24 by decide)) ?_
    refine PE.newL a ?_
    simp only [DenT]
    exact ⟨_, _, rfl, Bg .., by rw [lm_len_rep_flat, Nat.mul_comm]; exact hlen.2.2, (hd.rep _).push _⟩
  · obtain ⟨hb, rfl⟩ := iN e
    simp only [DenT] at dx dy; obtain ⟨t, rfl⟩ := dx; obtain ⟨t', rfl⟩ := dy
    exact floordiv_int hb (.int (.tok ..)) (.inr a.pylong)
  · obtain ⟨hb, rfl⟩ := iN e
    simp only [DenT] at dx dy; obtain ⟨t, rfl⟩ := dx; obtain ⟨t', rfl⟩ := dy
    exact mod_int' hb (.int (.tok ..))
  · obtain ⟨hb, rfl⟩ := iS e
    simp only [DenT] at dx dy; obtain ⟨t, rfl⟩ := dx; obtain ⟨t', rfl⟩ := dy
    exact pow_int hb.1 hb.2 (.int (.tok ..))
end
end Mine
end
section
open PySem PyProof.Rows PySem.SeqAt
namespace Mine
set_option tactic.hygienic false
set_option autoImplicit false
section
variable {c : Cx} {A : Around} {bad : Addr → Prop} {fs : List Addr} {s : Shared}
theorem readsI {h : Heap} : ∀ {xs : List Int} {vs : List Value}, DenI xs vs → ReadsAll h vs (xs.map .int) []
  | [], vs, e => by simp only [DenI] at e; subst e; exact .nil
  | x :: r, vs, e => by
    simp only [DenI] at e
    obtain ⟨t, w, rfl, hr⟩ := e
    have := ReadsAll.cons (Reads.int (h := h) x t) (readsI hr)
    simpa using this
mutual
theorem Ei {h : Heap} : ∀ (x : AV) (n : Nat) (v : Value), okA n x = true → DenT c h bad x v → ∃ as, Reads h v (toD x) as
  | .none, _, v, _, d => by simp only [DenT] at d; subst d; exact ⟨_, .none⟩
  | .bool b, _, v, _, d => by simp only [DenT] at d; subst d; exact ⟨_, .bool b⟩
  | .int i, _, v, _, d => by simp only [DenT] at d; obtain ⟨t, rfl⟩ := d; exact ⟨_, .int i t⟩
  | .str _, _, v, k, _ => by simp [okA] at k
  | .dict _, _, v, k, _ => by simp [okA] at k
  | .ilist xs, _, v, _, d => by
    simp only [DenT] at d
    obtain ⟨a, vs, rfl, ⟨o, ho, hc, n, hd⟩, _, hi⟩ := d
    exact ⟨_, .list ho hc hd (by simpa using readsI hi)⟩
  | .list xs, n, v, k, d => by
    simp only [DenT] at d
    obtain ⟨a, vs, rfl, ⟨o, ho, hc, m, hd⟩, _, hi⟩ := d
    simp only [okA, Bool.and_eq_true] at k
    obtain ⟨as, r⟩ := Ks xs (n - 1) vs k.2 hi
    exact ⟨_, .list ho hc hd (by simpa using r)⟩
  | .tup xs, n, v, k, d => by
    simp only [DenT] at d
    obtain ⟨a, vs, rfl, ⟨o, ho, hc, m, hd⟩, _, hi⟩ := d
    simp only [okA, Bool.and_eq_true] at k
    obtain ⟨as, r⟩ := Ks xs (n - 1) vs k.2 hi
    exact ⟨_, .tuple ho hc hd (by simpa using r)⟩
theorem Ks {h : Heap} : ∀ (xs : List AV) (n : Nat) (vs : List Value), okAs n xs = true → DenL c h bad xs vs → ∃ as, ReadsAll h vs (toDs xs) as
  | [], _, vs, _, d => by simp only [DenL] at d; subst d; exact ⟨_, .nil⟩
  | x :: r, n, vs, k, d => by
    simp only [DenL] at d
    obtain ⟨v, t, rfl, ⟨dv, _⟩, dr⟩ := d
    simp only [okAs, Bool.and_eq_true] at k
    obtain ⟨as, ra⟩ := Ei x n v k.1 dv
    obtain ⟨bs, rb⟩ := Ks r n t k.2 dr
    exact ⟨_, .cons ra rb⟩
end
theorem canInts : ∀ xs : List Int, PyData.canLayAll0 (xs.map .int) = true
  | [] => by simp [PyData.canLayAll0]
  | x :: r => by simp [PyData.canLayAll0, PyData.canLay0, canInts r]
theorem depInts : ∀ xs : List Int, PyData.depthAll (xs.map .int) ≤ 1
  | [] => by simp [PyData.depthAll]
  | x :: r => by
    have := depInts r
    simp only [List.map_cons, PyData.depthAll, PyData.depth]; lia
mutual
theorem can_of : ∀ (x : AV) (n : Nat), okA n x = true → (toD x).canLay0 = true ∧ (toD x).depth ≤ n + 1
  | .none, n, _ => by simp [toD, PyData.canLay0, PyData.depth]
  | .bool _, n, _ => by simp [toD, PyData.canLay0, PyData.depth]
  | .int _, n, _ => by simp [toD, PyData.canLay0, PyData.depth]
  | .str _, _, k => by simp [okA] at k
  | .dict _, _, k => by simp [okA] at k
  | .ilist xs, n, k => by
    simp only [okA, decide_eq_true_eq] at k
    have := depInts xs
    simp only [toD, PyData.canLay0, PyData.depth]
    exact ⟨canInts xs, by lia⟩
  | .list xs, n, k => by
    simp only [okA, Bool.and_eq_true, decide_eq_true_eq] at k
    have := can_ofs xs (n - 1) k.2
    simp only [toD, PyData.canLay0, PyData.depth]
    exact ⟨this.1, by lia⟩
  | .tup xs, n, k => by
    simp only [okA, Bool.and_eq_true, decide_eq_true_eq] at k
    have := can_ofs xs (n - 1) k.2
    simp only [toD, PyData.canLay0, PyData.depth]
    exact ⟨this.1, by lia⟩
theorem can_ofs : ∀ (xs : List AV) (n : Nat), okAs n xs = true → PyData.canLayAll0 (toDs xs) = true ∧ PyData.depthAll (toDs xs) ≤ n + 1
  | [], n, _ => by simp [toDs, PyData.canLayAll0, PyData.depthAll]
  | x :: r, n, k => by
    simp only [okAs, Bool.and_eq_true] at k
    have h1 := can_of x n k.1
    have h2 := can_ofs r n k.2
    simp only [toDs, PyData.canLayAll0, PyData.depthAll, Bool.and_eq_true]
    exact ⟨⟨h1.1, h2.1⟩, by lia⟩
end
theorem Ft {x : AV} (k : okA 60 x = true) : shaped (toD x) = true := by
  have := can_of x 60 k
  unfold shaped
  simp only [Bool.and_eq_true, decide_eq_true_eq]
  exact ⟨this.1, by lia⟩
set_option tactic.hygienic true in
theorem Hs {x : AV} {b : Bool} {v : Value} (a : At c A bad fs s) (e : Aa x = some b) (d : DenR c s.heap bad fs x v) {Q : Bool → Shared → Prop} {E : Value → Shared → Prop} (h : ∀ s', KpS fs s s' → Q b s') :
    wpAny (model c.prog c.w) A (PySem.truthy v) Q E s := by
  have d := d.1
  have hl := lim_lt
  cases x <;> simp only [Aa] at e <;> first | (cases e; done) | skip
  · simp only [DenT] at d; subst d; cases e; exact fun _ _ _ => h _ (.refl ..)
  · simp only [DenT] at d; subst d; cases e; exact wpAny_truthy_bool (h _ (.refl ..))
  · simp only [DenT] at d; obtain ⟨t, rfl⟩ := d; cases e; exact P.truthy_int (h _ (.refl ..))
  · simp only [DenT] at d; obtain ⟨h1, t, rfl⟩ := d; cases e
    rename_i x
    refine P.truthy_str (by simp only [Str.length, List.size_toArray]; with_reducible exact ZO ‹_› ‹_›) ?_
    have q : (((⟨x.toArray⟩ : Str).length : Int) != 0) = !x.isEmpty := by
      cases x <;> simp [Str.length]
      lia
    rw [q]; exact h _ (.tok ..)
  · simp only [DenT] at d; obtain ⟨p, vs, rfl, hp, h1, hd⟩ := d; cases e
    rename_i xs
    have h2 := hd.length
    refine wpAny_truthy_list hp (by simp only [List.size_toArray]; with_reducible exact ZN ‹_› ‹_› ‹_›) ?_
    have q : (!vs.toArray.isEmpty) = !xs.isEmpty := by
      cases xs <;> cases vs <;> simp_all
    rw [q]; exact h _ (.tok ..)
  · simp only [DenT] at d; obtain ⟨p, vs, rfl, hp, h1, hd⟩ := d; cases e
    rename_i xs
    have h2 := hd.length
    refine wpAny_truthy_list hp (by simp only [List.size_toArray]; with_reducible exact ZN ‹_› ‹_› ‹_›) ?_
    have q : (!vs.toArray.isEmpty) = !xs.isEmpty := by
      cases xs <;> cases vs <;> simp_all
    rw [q]; exact h _ (.tok ..)
noncomputable def Gj : COp → CmpOp
  | .eq => .Eq | .ne => .NotEq | .lt => .Lt | .le => .LtE | .gt => .Gt | .ge => .GtE | .isIn => .In | .notIn => .NotIn
  | .isNone => .Is | .isNotNone => .IsNot | .isNotBool => .IsNot
theorem Jk : ∀ a b : List Nat, Fy a b = decide (a < b)
  | _, [] => by cases ‹List Nat› <;> simp [Fy]
  | [], _ :: _ => by simp [Fy]
  | a :: r, b :: t => by
    simp only [Fy, Jk r t]
    by_cases h : a < b
    · simp [h, List.cons_lt_cons_iff]
    · by_cases h' : b < a
      · have : a ≠ b := by exact Nat.ne_of_gt ‹_›
        simp [h, h', this, List.cons_lt_cons_iff]
      · have : a = b := by lia
        subst this
        simp [List.cons_lt_cons_iff]
set_option tactic.hygienic true in
theorem eqAV_ok {x y : AV} {r : Bool} {v u : Value} (a : At c A bad fs s) (e : eqAV x y = some r) (dx : DenR c s.heap bad fs x v) (dy : DenR c s.heap bad fs y u) {Q : Value → Shared → Prop} {E : Value → Shared → Prop} (h : Q (.bool r) s) :
    wpAny (model c.prog c.w) A (compareOp .Eq v u) Q E s := by
  have dx := dx.1
  have dy := dy.1
  have hu : A.units + 64 < cLine := by have := a.room.units; lia
  unfold eqAV at e
  split at e
  · simp only [DenT] at dx dy; obtain ⟨t, rfl⟩ := dx; obtain ⟨t', rfl⟩ := dy; cases e; exact P.eq_int h
  · simp only [DenT] at dx dy; subst dx dy; cases e; exact PyProof.Rows.eq_bool h
  · simp only [DenT] at dx dy; obtain ⟨_, t, rfl⟩ := dx; obtain ⟨_, t', rfl⟩ := dy; cases e
    refine P.eq_str ?_
    simpa using h
  · cases e
    obtain ⟨as, ra⟩ := Ei _ 60 v rfl dx
    obtain ⟨bs, rb⟩ := Ei _ 60 u rfl dy
    refine eq_dataH ra rb (Ft rfl) (Ft rfl) hu ?_
    have q : ∀ xs ys : List Int, PyData.eqvAll (xs.map PyData.int) (ys.map PyData.int) = (xs == ys) := by
      intro xs
      induction xs with
      | nil => intro ys; cases ys <;> simp [PyData.eqvAll]
      | cons a r ih => intro ys; cases ys with
        | nil => simp [PyData.eqvAll]
        | cons b t => simp only [List.map_cons, PyData.eqvAll, PyData.eqv, ih]; rfl
    simp only [toD, PyData.eqv, q]
    exact h
  · split at e <;> cases e
    rename_i k
    simp only [Bool.and_eq_true] at k
    obtain ⟨as, ra⟩ := Ei _ 60 v k.1 dx
    obtain ⟨bs, rb⟩ := Ei _ 60 u k.2 dy
    exact eq_dataH ra rb (Ft k.1) (Ft k.2) hu h
set_option tactic.hygienic true in
theorem neAV_ok {x y : AV} {r : Bool} {v u : Value} (a : At c A bad fs s) (e : eqAV x y = some r) (dx : DenR c s.heap bad fs x v) (dy : DenR c s.heap bad fs y u) {Q : Value → Shared → Prop} {E : Value → Shared → Prop} (h : Q (.bool (!r)) s) :
    wpAny (model c.prog c.w) A (compareOp .NotEq v u) Q E s := by
  have dx := dx.1
  have dy := dy.1
  have hu : A.units + 64 < cLine := by have := a.room.units; lia
  unfold eqAV at e
  split at e
  · simp only [DenT] at dx dy; obtain ⟨t, rfl⟩ := dx; obtain ⟨t', rfl⟩ := dy; cases e; exact P.ne_int h
  · simp only [DenT] at dx dy; subst dx dy; cases e; exact PyProof.Rows.ne_bool h
  · simp only [DenT] at dx dy; obtain ⟨_, t, rfl⟩ := dx; obtain ⟨_, t', rfl⟩ := dy; cases e
    refine P.ne_str ?_
    exact h
  · cases e
    obtain ⟨as, ra⟩ := Ei _ 60 v rfl dx
    obtain ⟨bs, rb⟩ := Ei _ 60 u rfl dy
    refine ne_dataH ra rb (Ft rfl) (Ft rfl) hu ?_
    have q : ∀ xs ys : List Int, PyData.eqvAll (xs.map PyData.int) (ys.map PyData.int) = (xs == ys) := by
      intro xs
      induction xs with
      | nil => intro ys; cases ys <;> simp [PyData.eqvAll]
      | cons a r ih => intro ys; cases ys with
        | nil => simp [PyData.eqvAll]
        | cons b t => simp only [List.map_cons, PyData.eqvAll, PyData.eqv, ih]; rfl
    simp only [toD, PyData.eqv, q]
    exact h
  · split at e <;> cases e
    rename_i k
    simp only [Bool.and_eq_true] at k
    obtain ⟨as, ra⟩ := Ei _ 60 v k.1 dx
    obtain ⟨bs, rb⟩ := Ei _ 60 u k.2 dy
    exact ne_dataH ra rb (Ft k.1) (Ft k.2) hu h
theorem toDs_map : ∀ xs : List Int, toDs (xs.map AV.int) = xs.map PyData.int
  | [] => by simp [toDs]
  | x :: r => by simp [toDs, toD, toDs_map r]
set_option tactic.hygienic true in
theorem Ka {x : AV} {y : AV} {ys : List AV} {r : Bool} {v u : Value} (a : At c A bad fs s) (hy : y = .tup ys ∨ y = .list ys ∨ ∃ is, y = .ilist is ∧ ys = is.map .int) (e : inAV x ys = some r) (dx : DenR c s.heap bad fs x v) (dy : DenR c s.heap bad fs y u)
    {Q : Value → Shared → Prop} {E : Value → Shared → Prop} : (Q (.bool r) s → wpAny (model c.prog c.w) A (compareOp .In v u) Q E s) ∧ (Q (.bool (!r)) s → wpAny (model c.prog c.w) A (compareOp .NotIn v u) Q E s) := by
  have dx := dx.1
  have dy := dy.1
  unfold inAV at e
  split at e <;> cases e
  rename_i k
  simp only [Bool.and_eq_true] at k
  obtain ⟨as, ra⟩ := Ei _ 60 v k.1 dx
  have h1 := can_of x 60 k.1
  have h2 := can_ofs ys 60 k.2
  have hu : A.units + 1 + min (PyData.depthAll (toDs ys)) (toD x).depth < cLine := by have := a.room.units; have := Nat.min_le_right (PyData.depthAll (toDs ys)) (toD x).depth; lia
  rcases hy with rfl | rfl | ⟨is, rfl, rfl⟩
  · have k' : okA 61 (.tup ys) = true := by simp [okA, k.2]
    obtain ⟨bs, rb⟩ := Ei _ 61 u k' dy
    simp only [toD] at rb
    exact ⟨fun h => in_tuple_reads rb ra h2.1 h1.1 hu h, fun h => notIn_tuple_reads rb ra h2.1 h1.1 hu h⟩
  · have k' : okA 61 (.list ys) = true := by simp [okA, k.2]
    obtain ⟨bs, rb⟩ := Ei _ 61 u k' dy
    simp only [toD] at rb
    exact ⟨fun h => in_list_reads rb ra h2.1 h1.1 hu h, fun h => notIn_list_reads rb ra h2.1 h1.1 hu h⟩
  · obtain ⟨bs, rb⟩ := Ei (.ilist is) 60 u rfl dy
    simp only [toD, ← toDs_map] at rb
    exact ⟨fun h => in_list_reads rb ra h2.1 h1.1 hu h, fun h => notIn_list_reads rb ra h2.1 h1.1 hu h⟩
end
end Mine
end
section
open PySem PyProof.Rows PySem.SeqAt
namespace Mine
set_option tactic.hygienic false
set_option autoImplicit false
section
variable {c : Cx} {A : Around} {bad : Addr → Prop} {fs : List Addr} {s : Shared}
theorem cmpop_ok {op : COp} {x y : AV} {r : Bool} {v u : Value} (a : At c A bad fs s) (e : Ad op x y = some r) (dx : DenR c s.heap bad fs x v) (dy : DenR c s.heap bad fs y u)
    (hn : (op = .isNone ∨ op = .isNotNone) → u = .none) {Q : Value → Shared → Prop} {E : Value → Shared → Prop} (h : Q (.bool r) s) :
    wpAny (model c.prog c.w) A (compareOp (Gj op) v u) Q E s := by
  have other : (∀ q, x = q → q ≠ .none) → (v == Value.none) = false := fun hx => by
    have dx := dx.1
    cases x <;> simp only [DenT] at dx <;> first | (exact absurd rfl (hx _ rfl)) | skip
    · subst dx; rfl
    · obtain ⟨t, rfl⟩ := dx; rfl
    · obtain ⟨_, t, rfl⟩ := dx; rfl
    · obtain ⟨_, _, rfl, _⟩ := dx; rfl
    · obtain ⟨_, _, rfl, _⟩ := dx; rfl
    · obtain ⟨_, _, rfl, _⟩ := dx; rfl
    · obtain ⟨_, _, rfl, _⟩ := dx; rfl
  cases op <;> simp only [Ad] at e
  case eq => exact eqAV_ok a e dx dy h
  case ne =>
    simp only [Option.map_eq_some_iff] at e
    obtain ⟨b, e, rfl⟩ := e
    exact neAV_ok a e dx dy h
  case isIn =>
    cases y <;> first | exact (nS e).elim | skip
    · exact (Ka a (.inr (.inr ⟨_, rfl, rfl⟩)) e dx dy).1 h
    · exact (Ka a (.inr (.inl rfl)) e dx dy).1 h
    · exact (Ka a (.inl rfl) e dx dy).1 h
  case notIn =>
    cases y <;> first | exact (nS e).elim | skip
    all_goals (replace e := mS e; obtain ⟨b, e, rfl⟩ := e)
    · exact (Ka a (.inr (.inr ⟨_, rfl, rfl⟩)) e dx dy).2 h
    · exact (Ka a (.inr (.inl rfl)) e dx dy).2 h
    · exact (Ka a (.inl rfl) e dx dy).2 h
  case isNone =>
    have q := hn (.inl rfl); subst q
    by_cases hx : x = .none
    · subst hx; have dx := dx.1; simp only [DenT] at dx; subst dx; obtain rfl := Option.some.inj e
      exact is_none h
    · have e : false = r := by cases x <;> first | exact absurd rfl hx | exact Option.some.inj e
      subst e
      refine is_none ?_
      rw [other fun q e e' => hx (e.trans e')]; exact h
  case isNotNone =>
    have q := hn (.inr rfl); subst q
    by_cases hx : x = .none
    · subst hx; have dx := dx.1; simp only [DenT] at dx; subst dx; obtain rfl := Option.some.inj e
      exact isNot_none h
    · have e : true = r := by cases x <;> first | exact absurd rfl hx | exact Option.some.inj e
      subst e
      refine isNot_none ?_
      rw [other fun q e e' => hx (e.trans e')]; exact h
  case isNotBool =>
    cases x <;> first | exact (nS e).elim | (cases y <;> first | exact (nS e).elim | skip)
    have dx := dx.1; have dy := dy.1; simp only [DenT] at dx dy; subst dx dy; obtain rfl := Option.some.inj e
    refine wpAny_isNot_plain rfl ?_
    have : ∀ p q : Bool, (!(Value.bool p == Value.bool q)) = (p != q) := by decide
    rw [this]; exact h
  all_goals (cases x <;> first | exact (nS e).elim | (cases y <;> first | exact (nS e).elim | skip))
  all_goals (have dx := dx.1; have dy := dy.1; simp only [DenT] at dx dy)
  · obtain ⟨t, rfl⟩ := dx; obtain ⟨t', rfl⟩ := dy; obtain rfl := Option.some.inj e; exact P.lt_int h
  · obtain ⟨_, t, rfl⟩ := dx; obtain ⟨_, t', rfl⟩ := dy; obtain rfl := Option.some.inj e; rw [Jk] at h; exact P.lt_str (by simpa using h)
  · obtain ⟨t, rfl⟩ := dx; obtain ⟨t', rfl⟩ := dy; obtain rfl := Option.some.inj e; exact P.le_int h
  · obtain ⟨_, t, rfl⟩ := dx; obtain ⟨_, t', rfl⟩ := dy; obtain rfl := Option.some.inj e; rw [Jk] at h; exact P.le_str (by simpa using h)
  · obtain ⟨t, rfl⟩ := dx; obtain ⟨t', rfl⟩ := dy; obtain rfl := Option.some.inj e; exact P.gt_int h
  · obtain ⟨_, t, rfl⟩ := dx; obtain ⟨_, t', rfl⟩ := dy; obtain rfl := Option.some.inj e; rw [Jk] at h; exact P.gt_str (by simpa using h)
  · obtain ⟨t, rfl⟩ := dx; obtain ⟨t', rfl⟩ := dy; obtain rfl := Option.some.inj e; exact P.ge_int h
  · obtain ⟨_, t, rfl⟩ := dx; obtain ⟨_, t', rfl⟩ := dy; obtain rfl := Option.some.inj e; rw [Jk] at h; exact P.ge_str (by simpa using h)
set_option tactic.hygienic true in
theorem Io {α : Type} {xs : List α} {i : Int} {x : α} (h : getI xs i = some x) : (0 ≤ i ∧ i < xs.length ∧ xs[i.toNat]? = some x) ∨ (i < 0 ∧ -(xs.length : Int) ≤ i ∧ xs[(i + xs.length).toNat]? = some x) := by
  unfold getI at h
  split at h
  · rename_i h0
    have := (List.getElem?_eq_some_iff.mp h).1
    exact .inl ⟨h0, by lia, h⟩
  · split at h
    · rename_i h0 h1
      rw [Int.add_comm] at h
      exact .inr ⟨by exact Int.lt_of_not_ge ‹_›, h1, h⟩
    · cases h
theorem seqIndex_pos {i : Int} {n : Nat} (h0 : 0 ≤ i) (h1 : i < n) : seqIndex? i n = some i.toNat := by
  have e : (if i < 0 then i + (n : Int) else i) = i := if_neg (by exact Int.not_lt.mpr ‹_›)
  unfold seqIndex?
  simp only [e]
  rw [if_pos (by simp; lia)]
theorem seqIndex_neg {i : Int} {n : Nat} (h0 : i < 0) (h1 : -(n : Int) ≤ i) : seqIndex? i n = some (i + n).toNat := by
  have e : (if i < 0 then i + (n : Int) else i) = i + n := if_pos (by assumption)
  unfold seqIndex?
  simp only [e]
  rw [if_pos (by simp; lia)]
theorem Jg : ∀ {es : List (Int × Int)} {kvs : List (Int × Value)}, Ap es kvs → ∀ k : Int, (∃ n t, es.lookup k = some n ∧ valueAt kvs k = some (.int n t)) ∨ (es.lookup k = none ∧ valueAt kvs k = none)
  | [], kvs, h, k => by simp only [Ap] at h; subst h; exact .inr ⟨rfl, rfl⟩
  | (a, b) :: r, kvs, h, k => by
    simp only [Ap] at h
    obtain ⟨t, w, rfl, hr⟩ := h
    by_cases q : a = k
    · subst q; exact .inl ⟨b, t, by simp [List.lookup_cons], by simp [valueAt]⟩
    · have q1 : (k == a) = false := by simpa using fun e => q e.symm
      rcases Jg hr k with ⟨n, u, e1, e2⟩ | ⟨e1, e2⟩
      · exact .inl ⟨n, u, by simp [List.lookup_cons, q1, e1], by simpa [valueAt, q] using e2⟩
      · exact .inr ⟨by simp [List.lookup_cons, q1, e1], by simpa [valueAt, q] using e2⟩
theorem Kn (c : Cx) (k : Int) (t : Tok) : (intKind c.prog c.w).is k (.int k t) = true := by
  show Value.isInt k (.int k t) = true
  simp [Value.isInt]
set_option tactic.hygienic true in
theorem getItem_ok {x y z : AV} {v u : Value} (a : At c A bad fs s) (e : Ay x y = some z) (dx : DenR c s.heap bad fs x v) (dy : DenR c s.heap bad fs y u) :
    wpAny (model c.prog c.w) A (getItem v u) (PE c fs bad true false s z) (fun _ _ => False) s := by
  replace dx := dx.1
  replace dy := dy.1
  have hl := lim_lt
  cases x <;> first | exact (nS e).elim | (cases y <;> first | exact (nS e).elim | skip)
  · replace e := mS e
    obtain ⟨n, e, rfl⟩ := e
    simp only [DenT] at dx dy
    obtain ⟨hs, t, rfl⟩ := dx; obtain ⟨t', rfl⟩ := dy
    rename_i xs i
    have : LIM = 1048576 := rfl
    refine PyProof.Rows.getItem_str (c := n) ?_ ?_ ?_
    · rcases Io e with ⟨h0, h1, h2⟩ | ⟨h0, h1, h2⟩ <;> simp <;> lia
    · simp only [Str.length, List.size_toArray]
      rcases Io e with ⟨h0, h1, h2⟩ | ⟨h0, h1, h2⟩
      · rw [seqIndex_pos h0 h1]; simpa using h2
      · rw [seqIndex_neg h0 h1]; simpa using h2
    · exact .str (x := [n]) (.tok ..) (by simp [LIM])
  · replace e := mS e
    obtain ⟨n, e, rfl⟩ := e
    simp only [DenT] at dx dy
    obtain ⟨p, vs, rfl, hp, hs, hd⟩ := dx; obtain ⟨t, rfl⟩ := dy
    have hlen := hd.length
    rcases Io e with ⟨h0, h1, h2⟩ | ⟨h0, h1, h2⟩
    · obtain ⟨t', q⟩ := hd.get h2
      exact wpAny_getItem_list hp h0 (by with_reducible exact ZP ‹_› ‹_› ‹_›) (by simpa using q) (.int (.refl ..))
    · obtain ⟨t', q⟩ := hd.get h2
      exact wpAny_getItem_list_neg hp h0 (by simpa [hlen] using h1) (by with_reducible exact ZQ ‹_› ‹_› ‹_›) (by simpa [hlen] using q) (.int (.refl ..))
  · simp only [DenT] at dx dy
    obtain ⟨p, vs, rfl, hp, hs, hd⟩ := dx; obtain ⟨t, rfl⟩ := dy
    have hlen := hd.length
    rcases Io e with ⟨h0, h1, h2⟩ | ⟨h0, h1, h2⟩
    · obtain ⟨w, q, dw⟩ := hd.get h2
      exact wpAny_getItem_list hp h0 (by with_reducible exact ZP ‹_› ‹_› ‹_›) (by simpa using q) (.there (.refl ..) a.fsb dw)
    · obtain ⟨w, q, dw⟩ := hd.get h2
      exact wpAny_getItem_list_neg hp h0 (by simpa [hlen] using h1) (by with_reducible exact ZQ ‹_› ‹_› ‹_›) (by simpa [hlen] using q) (.there (.refl ..) a.fsb dw)
  · simp only [DenT] at dx dy
    obtain ⟨p, vs, rfl, hp, hs, hd⟩ := dx; obtain ⟨t, rfl⟩ := dy
    have hlen := hd.length
    rcases Io e with ⟨h0, h1, h2⟩ | ⟨h0, h1, h2⟩
    · obtain ⟨w, q, dw⟩ := hd.get h2
      exact PyProof.Rows.getItem_tuple hp (by exact YA ‹_›) (by with_reducible exact ZP ‹_› ‹_› ‹_›) (seqIndex_pos h0 (by simpa [hlen] using h1)) (by simpa using q) (.there (.refl ..) a.fsb dw)
    · obtain ⟨w, q, dw⟩ := hd.get h2
      exact PyProof.Rows.getItem_tuple hp (by with_reducible exact ZQ ‹_› ‹_› ‹_›) (by exact YB ‹_›) (seqIndex_neg h0 (by simpa [hlen] using h1)) (by simpa [hlen] using q) (.there (.refl ..) a.fsb dw)
  · replace e := mS e
    obtain ⟨n, e, rfl⟩ := e
    simp only [DenT] at dx dy
    obtain ⟨p, kvs, rfl, hp, hs, hd, _⟩ := dx; obtain ⟨t, rfl⟩ := dy
    rcases Jg hd _ with ⟨n', t', e1, e2⟩ | ⟨e1, e2⟩
    · rw [e] at e1; cases e1
      exact wpAny_getItem_of (Kn c _ t) hp.mapOf e2 (.int (.tok ..))
    · rw [e] at e1; cases e1
end
end Mine
end
section
open PySem PyProof.Rows PySem.SeqAt
namespace Mine
set_option tactic.hygienic false
set_option autoImplicit false
section
variable {c : Cx} {A : Around} {bad : Addr → Prop} {fs : List Addr} {s : Shared}
theorem strIdx_from (n : Nat) (i : Nat) : Builtin.Str.strSliceIndices (some (i : Int)) none 1 n = (List.range (n - min i n)).map (min i n + ·) := by
  rw [← sliceRange_one]
  unfold Builtin.Str.strSliceIndices
  simp only [show (1 : Int) > 0 by decide, if_true, show ¬ ((i : Int) < 0) by exact YH _, if_false]
  congr 1
  lia
theorem strIdx_upto (n : Nat) (i : Nat) : Builtin.Str.strSliceIndices none (some (i : Int)) 1 n = (List.range (min i n - 0)).map (0 + ·) := by
  rw [← sliceRange_one]
  unfold Builtin.Str.strSliceIndices
  simp only [show (1 : Int) > 0 by decide, if_true, show ¬ ((i : Int) < 0) by exact YH _, if_false]
  congr 1
  lia
set_option tactic.hygienic true in
theorem sliceMade_from {x : List Nat} {t : Tok} {i : Nat} {u : Tok} {Q : Value → Shared → Prop} (hx : x.length ≤ LIM) (h : ∀ t' tk, Q (.str ⟨(x.drop i).toArray⟩ t') { s with toks := tk }) :
    (sliceMade ⟨x.toArray⟩ t (some ((i : Int), u)) none none).post Q s := by
  have hl := Em
  unfold sliceMade slicePicked
  simp only [Option.map_some, Option.map_none, Option.getD_none, Str.length, List.size_toArray]
  rw [strIdx_from]
  split
  · rename_i q
    simp only [beq_self_eq_true, Bool.true_and, List.length_map, List.length_range, beq_iff_eq] at q
    have : x.drop i = x := by
      by_cases hi : i = 0
      · subst hi; rfl
      · have : x.length = 0 := by lia
        have := List.eq_nil_of_length_eq_zero this
        subst this; simp
    have h2 := h t s.toks
    rw [this] at h2
    exact h2
  · refine ⟨?_, ?_⟩
    · rw [pick_run]
      simp only [Str.length, List.size_toArray, List.length_take, List.length_drop]
      lia
    · rw [pick_run]
      have : List.take (x.length - min i x.length) (List.drop (min i x.length) x.toArray.toList) = x.drop i := by
        rw [List.take_of_length_le (by simp)]
        by_cases hi : i ≤ x.length
        · rw [Nat.min_eq_left hi]
        · rw [Nat.min_eq_right (by exact Nat.le_of_not_le ‹_›), List.drop_of_length_le (by simp), List.drop_of_length_le (by exact Nat.le_of_not_le ‹_›)]
      rw [this]; exact h _ _
set_option tactic.hygienic true in
theorem sliceMade_upto {x : List Nat} {t : Tok} {i : Nat} {u : Tok} {Q : Value → Shared → Prop} (hx : x.length ≤ LIM) (h : ∀ t' tk, Q (.str ⟨(x.take i).toArray⟩ t') { s with toks := tk }) :
    (sliceMade ⟨x.toArray⟩ t none (some ((i : Int), u)) none).post Q s := by
  have hl := Em
  unfold sliceMade slicePicked
  simp only [Option.map_some, Option.map_none, Option.getD_none, Str.length, List.size_toArray]
  rw [strIdx_upto]
  split
  · rename_i q
    simp only [beq_self_eq_true, Bool.true_and, List.length_map, List.length_range, beq_iff_eq] at q
    have : x.take i = x := List.take_of_length_le (by lia)
    have h2 := h t s.toks
    rw [this] at h2
    exact h2
  · refine ⟨?_, ?_⟩
    · rw [pick_run]
      simp only [Str.length, List.size_toArray, List.length_take, List.length_drop]
      lia
    · rw [pick_run]
      have : List.take (min i x.length - 0) (List.drop 0 x.toArray.toList) = x.take i := by
        simp only [Nat.sub_zero, List.drop_zero]
        by_cases hi : i ≤ x.length
        · rw [Nat.min_eq_left hi]
        · rw [Nat.min_eq_right (by exact Nat.le_of_not_le ‹_›)]; simp; rw [List.take_of_length_le (by exact Nat.le_of_not_le ‹_›)]
      rw [this]; exact h _ _
theorem sliceTo_ok {x y z : AV} {v u : Value} {sl : Addr} {cap fr : Bool} (a : At c A bad fs s) (e : takeop x y = some z) (dx : DenR c s.heap bad fs x v) (dy : DenR c s.heap bad fs y u) (hs : s.heap.IsSliceOf sl .none u .none) :
    wpAny (model c.prog c.w) A (getItem v (.ref sl)) (PE c fs bad cap fr s z) (fun _ _ => False) s := by
  replace dx := dx.1
  replace dy := dy.1
  have hll := Em
  cases x <;> first | exact (nS e).elim | (cases y <;> first | exact (nS e).elim | skip)
  · obtain ⟨h0, rfl⟩ := iS e
    simp only [DenT] at dx dy
    obtain ⟨hz, t, rfl⟩ := dx; obtain ⟨t', rfl⟩ := dy
    obtain ⟨n, rfl⟩ := Int.eq_ofNat_of_zero_le h0
    refine wpAny_getItem_str_slice (l := none) (u := some (_, t')) (st := none) hs rfl ?_
    exact sliceMade_upto hz fun t' tk => .str (.tok ..) (by simp; exact Nat.le_trans (Nat.min_le_right _ _) ‹_›)
  · obtain ⟨h0, rfl⟩ := iS e
    simp only [DenT] at dx dy
    obtain ⟨p, vs, rfl, hp, hz, hd⟩ := dx; obtain ⟨t, rfl⟩ := dy
    obtain ⟨n, rfl⟩ := Int.eq_ofNat_of_zero_le h0
    refine wpAny_getItem_list_slice hp hs .none (.int _ t) .none (by simp) ?_ (by have := hd.length; simp; with_reducible exact (ZA ‹_› ‹_› ‹_›))
    rw [slicePick_upto']
    refine PE.newL a ?_
    simp only [DenT]
    refine ⟨_, _, rfl, Bg .., by simp; exact Nat.le_trans (Nat.min_le_right _ _) ‹_›, by simpa using hd.take n⟩
  · obtain ⟨h0, rfl⟩ := iS e
    simp only [DenT] at dx dy
    obtain ⟨p, vs, rfl, hp, hz, hd⟩ := dx; obtain ⟨t, rfl⟩ := dy
    obtain ⟨n, rfl⟩ := Int.eq_ofNat_of_zero_le h0
    refine wpAny_getItem_list_slice hp hs .none (.int _ t) .none (by simp) ?_ (by have := hd.length; simp; with_reducible exact (ZA ‹_› ‹_› ‹_›))
    rw [slicePick_upto']
    refine PE.newL a ?_
    simp only [DenT]
    refine ⟨_, _, rfl, Bg .., by simp; exact Nat.le_trans (Nat.min_le_right _ _) ‹_›, by simpa using (hd.take n).push _⟩
theorem sliceFrom_ok {x y z : AV} {v u : Value} {sl : Addr} {cap fr : Bool} (a : At c A bad fs s) (e : Ju x y = some z) (dx : DenR c s.heap bad fs x v) (dy : DenR c s.heap bad fs y u) (hs : s.heap.IsSliceOf sl u .none .none) :
    wpAny (model c.prog c.w) A (getItem v (.ref sl)) (PE c fs bad cap fr s z) (fun _ _ => False) s := by
  replace dx := dx.1
  replace dy := dy.1
  have hll := Em
  cases x <;> first | exact (nS e).elim | (cases y <;> first | exact (nS e).elim | skip)
  · obtain ⟨h0, rfl⟩ := iS e
    simp only [DenT] at dx dy
    obtain ⟨hz, t, rfl⟩ := dx; obtain ⟨t', rfl⟩ := dy
    obtain ⟨n, rfl⟩ := Int.eq_ofNat_of_zero_le h0
    refine wpAny_getItem_str_slice (l := some (_, t')) (u := none) (st := none) hs rfl ?_
    exact sliceMade_from hz fun t' tk => .str (.tok ..) (by simp; exact Nat.le_trans ‹_› (Nat.le_add_right _ _))
  · obtain ⟨h0, rfl⟩ := iS e
    simp only [DenT] at dx dy
    obtain ⟨p, vs, rfl, hp, hz, hd⟩ := dx; obtain ⟨t, rfl⟩ := dy
    obtain ⟨n, rfl⟩ := Int.eq_ofNat_of_zero_le h0
    refine wpAny_getItem_list_slice hp hs (.int _ t) .none .none (by simp) ?_ (by have := hd.length; simp; with_reducible exact (ZA ‹_› ‹_› ‹_›))
    rw [slicePick_from']
    refine PE.newL a ?_
    simp only [DenT]
    refine ⟨_, _, rfl, Bg .., by simp; exact Nat.le_trans ‹_› (Nat.le_add_right _ _), by simpa using hd.drop n⟩
  · obtain ⟨h0, rfl⟩ := iS e
    simp only [DenT] at dx dy
    obtain ⟨p, vs, rfl, hp, hz, hd⟩ := dx; obtain ⟨t, rfl⟩ := dy
    obtain ⟨n, rfl⟩ := Int.eq_ofNat_of_zero_le h0
    refine wpAny_getItem_list_slice hp hs (.int _ t) .none .none (by simp) ?_ (by have := hd.length; simp; with_reducible exact (ZA ‹_› ‹_› ‹_›))
    rw [slicePick_from']
    refine PE.newL a ?_
    simp only [DenT]
    refine ⟨_, _, rfl, Bg .., by simp; exact Nat.le_trans ‹_› (Nat.le_add_right _ _), by simpa using (hd.drop n).push _⟩
noncomputable def tyOf : AV → Option String
  | .str _ => some "str"
  | .ilist _ => some "list"
  | .list _ => some "list"
  | .tup _ => some "tuple"
  | .dict _ => some "dict"
  | _ => none
theorem den_type {x : AV} {v : Value} {T : String} (d : DenT c s.heap bad x v) (h : tyOf x = some T) : s.TypeIs v T := by
  cases x <;> simp only [tyOf] at h <;> cases h <;> simp only [DenT] at d
  · obtain ⟨_, t, rfl⟩ := d; exact typeIs_str _ _ _
  · obtain ⟨a, vs, rfl, hl, _⟩ := d; exact hl.typeIs
  · obtain ⟨a, vs, rfl, hl, _⟩ := d; exact hl.typeIs
  · obtain ⟨a, vs, rfl, hl, _⟩ := d; exact hl.typeIs
  · obtain ⟨a, kvs, rfl, hl, _⟩ := d; exact hl.typeIs
theorem getitem_of {x : AV} {T : String} (h : tyOf x = some T) : ∃ id, typeLookup (.type T) "__getitem__" = pure (some (.builtin id)) := by
  cases x <;> simp only [tyOf] at h <;> cases h
  · exact ⟨_, F.slot_str_getitem.lookup⟩
  · exact ⟨_, slot_list_getitem.lookup⟩
  · exact ⟨_, slot_list_getitem.lookup⟩
  · exact ⟨_, PyProof.Rows.slot_tuple_getitem.lookup⟩
  · exact ⟨_, F.slot_dict_getitem.lookup⟩
theorem idx_ty {x y z : AV} (e : Ay x y = some z) : ∃ T, tyOf x = some T := by cases x <;> first | exact (nS e).elim | exact ⟨_, rfl⟩ | (cases y <;> exact (nS e).elim)
theorem take_ty {x y z : AV} (e : takeop x y = some z) : ∃ T, tyOf x = some T := by cases x <;> first | exact (nS e).elim | exact ⟨_, rfl⟩ | (cases y <;> exact (nS e).elim)
theorem drop_ty {x y z : AV} (e : Ju x y = some z) : ∃ T, tyOf x = some T := by cases x <;> first | exact (nS e).elim | exact ⟨_, rfl⟩ | (cases y <;> exact (nS e).elim)
set_option tactic.hygienic true in
theorem subTail {value slice : Expr} {v u : Value} {x : AV} {T : String} {Q : Value → Shared → Prop} {E : Value → Shared → Prop} (d : DenT c s.heap bad x v) (h : tyOf x = some T) (hg : wpAny (model c.prog c.w) A (getItem v u) Q E s) :
    wpAny (model c.prog c.w) A (subscriptTail value slice v u) Q E s := by
  obtain ⟨id, hl⟩ := getitem_of h
  by_cases q : ∃ p q r, slice = .Slice p q none r
  · obtain ⟨p, q, r, rfl⟩ := q
    exact tail_any (ops := [u, v]) (den_type d h) hl hg rfl
  · refine tail_any (ops := [v, u]) (den_type d h) hl hg ?_
    cases slice <;> first | rfl | skip
    rename_i st _
    cases st with
    | none => exact absurd ⟨_, _, _, rfl⟩ q
    | some _ => rfl
end
end Mine
end
section
open PySem PyProof.Rows PySem.SeqAt
namespace Mine
set_option tactic.hygienic false
set_option autoImplicit false
section
variable {c : Cx} {A : Around} {bad : Addr → Prop} {fs : List Addr} {s : Shared}
noncomputable def fval : F1 → Value
  | .len => .builtin "len" | .abs => .builtin "abs" | .list => .type "list" | .sum => .builtin "sum" | .str => .type "str" | .ord => .builtin "ord"
theorem DenI.pairs : ∀ {xs : List Int} {vs : List Value}, DenI xs vs → ∃ ps : List (Int × Tok), vs = ps.map (fun p => Value.int p.1 p.2) ∧ ps.map (·.1) = xs
  | [], vs, e => by simp only [DenI] at e; subst e; exact ⟨[], rfl, rfl⟩
  | x :: r, vs, e => by
    simp only [DenI] at e
    obtain ⟨t, w, rfl, hr⟩ := e
    obtain ⟨ps, rfl, h2⟩ := hr.pairs
    exact ⟨(x, t) :: ps, rfl, by simp [h2]⟩
theorem sumI_eq (xs : List Int) : sumI xs = xs.sum := by
  have : ∀ (xs : List Int) (a : Int), xs.foldl (· + ·) a = a + xs.sum := by
    intro xs
    induction xs with
    | nil => intro a; simp
    | cons x r ih => intro a; rw [List.foldl_cons, ih, List.sum_cons]; lia
  unfold sumI; rw [this]; simp
set_option tactic.hygienic true in
theorem f1_ok {f : F1} {x z : AV} {v : Value} {cap fr : Bool} (a : At c A bad fs s) (e : Af f x = some z) (dx : DenR c s.heap bad fs x v) :
    wpAny (model c.prog c.w) A (call (fval f) [v]) (PE c fs bad cap fr s z) (fun _ _ => False) s := by
  have dx := dx.1
  have hl := lim_lt
  have hll := Em
  cases f <;> cases x <;> first | exact (nS e).elim | skip
  · cases e
    simp only [DenT] at dx
    obtain ⟨h1, t, rfl⟩ := dx
    refine PyProof.Rows.len_str (by simp only [Str.length, List.size_toArray]; with_reducible exact ZO ‹_› ‹_›) ?_
    simp only [Str.length, List.size_toArray]
    exact .int (.tok ..)
  · cases e
    simp only [DenT] at dx
    obtain ⟨p, vs, rfl, hp, h1, hd⟩ := dx
    have h2 := hd.length
    refine PyProof.Rows.len_list hp (by simp only [List.size_toArray]; with_reducible exact ZN ‹_› ‹_› ‹_›) ?_
    simp only [List.size_toArray, h2]
    exact .int (.tok ..)
  · cases e
    simp only [DenT] at dx
    obtain ⟨p, vs, rfl, hp, h1, hd⟩ := dx
    have h2 := hd.length
    refine PyProof.Rows.len_list hp (by simp only [List.size_toArray]; with_reducible exact ZN ‹_› ‹_› ‹_›) ?_
    simp only [List.size_toArray, h2]
    exact .int (.tok ..)
  · cases e
    simp only [DenT] at dx
    obtain ⟨p, vs, rfl, hp, h1, hd⟩ := dx
    have h2 := hd.length
    refine PyProof.Rows.len_tuple hp (by simp only [List.size_toArray]; with_reducible exact ZN ‹_› ‹_› ‹_›) ?_
    simp only [List.size_toArray, h2]
    exact .int (.tok ..)
  · cases e
    simp only [DenT] at dx
    obtain ⟨t, rfl⟩ := dx
    rename_i i
    refine PyProof.Rows.call_abs_int fun u tk => ?_
    have : (if i < 0 then -i else i) = (i.natAbs : Int) := by split <;> lia
    rw [this]; exact .int (.tok ..)
  · cases e
    simp only [DenT] at dx
    obtain ⟨p, vs, rfl, ⟨o, ho, hc, n, hd'⟩, h1, hd⟩ := dx
    have h2 := hd.length
    refine call_list_seq p (.inl rfl) ho hc hd' (fun h' c' hk hD => ?_) (by simp only [List.size_toArray]; with_reducible exact (ZA ‹_› ‹_› ‹_›))
    refine .new (.mk' _ _ (.of hk)) a.fsb a.badD (Az _) ?_
    simp only [DenT]
    exact ⟨_, vs, rfl, ⟨_, hD, rfl, _, rfl⟩, h1, hd⟩
  · cases e
    simp only [DenT] at dx
    obtain ⟨p, vs, rfl, ⟨o, ho, hc, n, hd'⟩, h1, hd⟩ := dx
    have h2 := hd.length
    refine call_list_seq p (.inl rfl) ho hc hd' (fun h' c' hk hD => ?_) (by simp only [List.size_toArray]; with_reducible exact (ZA ‹_› ‹_› ‹_›))
    refine .new (.mk' _ _ (.of hk)) a.fsb a.badD (Az _) ?_
    simp only [DenT]
    exact ⟨_, vs, rfl, ⟨_, hD, rfl, _, rfl⟩, h1, hd.kp (fs := fs) (.of hk) a.fsb⟩
  · cases e
    simp only [DenT] at dx
    obtain ⟨p, vs, rfl, ⟨o, ho, hc, n, hd'⟩, h1, hd⟩ := dx
    have h2 := hd.length
    refine call_list_seq p (.inr rfl) ho hc hd' (fun h' c' hk hD => ?_) (by simp only [List.size_toArray]; with_reducible exact (ZA ‹_› ‹_› ‹_›))
    refine .new (.mk' _ _ (.of hk)) a.fsb a.badD (Az _) ?_
    exact den_mkL ⟨_, hD, rfl, _, rfl⟩ (hd.kp (fs := fs) (.of hk) a.fsb) h1
  · cases e
    simp only [DenT] at dx
    obtain ⟨p, vs, rfl, hp, h1, hd⟩ := dx
    obtain ⟨ps, rfl, rfl⟩ := hd.pairs
    refine sum_intListG (xs := ps.toArray) a.room.handled (by simpa [intItems] using hp) fun h' tk t' hk => ?_
    have : preSum (numAt ps.toArray) ps.toArray.size = sumI (ps.map (·.1)) := by
      rw [preSum_eq, sumI_eq, List.take_of_length_le (by simp)]
    rw [this]
    exact .int (.mk _ _ _ (.of hk))
  · obtain ⟨hi, rfl⟩ := iS e
    simp only [DenT] at dx
    obtain ⟨t, rfl⟩ := dx
    refine P.str_of_int (by with_reducible exact Nat.lt_of_lt_of_le ‹_› (by decide)) ?_
    refine PE.plain (.tok ..) ?_ (by intro a e; cases e)
    simp only [DenT, An]
    refine ⟨?_, _, rfl⟩
    have e := int_text_length_le (k := 1000) (by decide) hi
    rw [← PySem.ofString_length] at e
    unfold Str.length at e
    rw [Array.length_toList]
    unfold LIM; with_reducible exact Nat.le_trans ‹_› (by decide)
  · rename_i q _
    rcases q with _ | ⟨_, _ | _⟩ <;> first | exact (nS e).elim | skip
    cases e
    simp only [DenT] at dx
    obtain ⟨h1, t, rfl⟩ := dx
    exact P.ord_of_char (.int (.tok ..))
theorem strsOf_den {h : Heap} : ∀ {ys : List AV} {ss : List (List Nat)} {vs : List Value}, Jj ys = some ss → DenL c h bad ys vs → ∃ l : List (Str × Tok), vs = strValues l ∧ l.map (·.1) = ss.map fun x => (⟨x.toArray⟩ : Str)
  | [], ss, vs, e, d => by obtain rfl := Option.some.inj e; simp only [DenL] at d; subst d; exact ⟨[], rfl, rfl⟩
  | y :: r, ss, vs, e, d => by
    cases y <;> first | exact (nS e).elim | skip
    rw [so_c] at e
    cases q : Jj r with
    | none => rw [q] at e; cases e
    | some is =>
      rw [q] at e
      simp at e; subst e
      simp only [DenL, DenT] at d
      obtain ⟨v, t, rfl, ⟨⟨_, tk, rfl⟩, _⟩, hr⟩ := d
      obtain ⟨l, rfl, h2⟩ := strsOf_den q hr
      exact ⟨(_, tk) :: l, rfl, by simp [h2]⟩
theorem join_eq (sep : List Nat) : ∀ ss : List (List Nat), Str.join ⟨sep.toArray⟩ (ss.map fun x => (⟨x.toArray⟩ : Str)) = ⟨(Au sep ss).toArray⟩
  | [] => rfl
  | [x] => rfl
  | x :: y :: r => by
    have := join_eq sep (y :: r)
    simp only [List.map_cons] at this ⊢
    simp only [Str.join, Au, this, str_append]
theorem Jz (sep : List Nat) : ∀ ss : List (List Nat), (Au sep ss).length ≤ (ss.map List.length).sum + ss.length * sep.length
  | [] => by simp [Au]
  | [x] => by simp [Au]
  | x :: y :: r => by
    have := Jz sep (y :: r)
    simp only [Au, List.length_append, List.map_cons, List.sum_cons, List.length_cons] at this ⊢
    have e : (r.length + 1 + 1) * sep.length = (r.length + 1) * sep.length + sep.length := by rw [Nat.add_mul, Nat.one_mul]
    lia
set_option tactic.hygienic true in
theorem join_ok {x y z : AV} {v u : Value} {cap fr : Bool} (a : At c A bad fs s) (e : Hu x y = some z) (dx : DenR c s.heap bad fs x v) (dy : DenR c s.heap bad fs y u) :
    wpAny (model c.prog c.w) A (call (.builtin "str.join") [v, u]) (PE c fs bad cap fr s z) (fun _ _ => False) s := by
  have dx := dx.1
  have dy := dy.1
  have hll := Em
  unfold Hu at e
  split at e
  · rename_i sep b
    simp only [DenT] at dx
    obtain ⟨hs, t, rfl⟩ := dx
    split at e
    · rename_i ss hss
      split at e <;> cases e
      rename_i hlen
      have key : ∃ D l, u = .ref D ∧ s.heap.IsList D (strValues l).toArray ∧ l.map (·.1) = ss.map fun x => (⟨x.toArray⟩ : Str) := by
        split at hss
        · simp only [DenT] at dy
          obtain ⟨p, vs, rfl, hp, h1, hd⟩ := dy
          obtain ⟨l, rfl, h2⟩ := strsOf_den hss hd
          exact ⟨p, l, rfl, hp, h2⟩
        · cases hss
          simp only [DenT] at dy
          obtain ⟨p, vs, rfl, hp, h1, hd⟩ := dy
          simp only [DenI] at hd; subst hd
          exact ⟨p, [], rfl, hp, rfl⟩
        · cases hss
      obtain ⟨D, l, rfl, hp, h2⟩ := key
      refine SC.join hp h2 ?_ fun t' k => ?_
      · unfold JoinOk
        rw [StrLaws.joinTotal]
        simp only [Builtin.Str.tooLong, Bool.not_eq_true', decide_eq_false_iff_not, Nat.not_lt, List.map_map, List.length_map, Str.length, List.size_toArray]
        have : (List.map (fun x : List Nat => x.length) ss) = ss.map List.length := rfl
        have e2 : ((fun x : Str => x.cps.size) ∘ fun x : List Nat => (⟨x.toArray⟩ : Str)) = List.length := by funext x; simp
        rw [e2]; with_reducible exact Nat.le_trans ‹_› ‹_›
      · unfold Txt.join
        rw [StrLaws.glued_eq_join, join_eq]
        exact .str (.tok ..) (Nat.le_trans (Jz sep ss) hlen)
    · cases e
  · cases e
end
end Mine
end
section
open PySem PyProof.Rows PySem.SeqAt
namespace Mine
set_option backward.match.sparseCases true
set_option tactic.hygienic false
set_option autoImplicit false
theorem Eo.trans {h₁ h₂ h₃ : Heap} {b₁ b₂ b₃ : Addr → Prop} (x : Eo h₁ h₂ b₁ b₂) (y : Eo h₂ h₃ b₂ b₃) : Eo h₁ h₃ b₁ b₃ where
  keep := fun b o hb e => y.keep b o (x.nb b hb (by first | exact nn (e) | (rw [e]; simp))) (x.keep b o hb e)
  nb := fun b hb e => by
    cases q : h₁.get? b with
    | none => exact absurd q e
    | some o => exact y.nb b (x.nb b hb e) (by first | exact nn (x.keep b o hb q) | (rw [x.keep b o hb q]; simp))
theorem Eo.refl (h : Heap) (b : Addr → Prop) : Eo h h b b := ⟨fun _ _ _ e => e, fun _ hb _ => hb⟩
noncomputable def isName : Expr → Bool
  | .Name .. => true
  | _ => false
structure Turns (c : Cx) (A : Around) (target : Expr) (I : Addr) (fp wr : List Addr) (n : Nat) (D : Nat → Value → Heap → Prop) (St : Nat → Heap → Prop) : Prop where
  sub : ∀ b ∈ wr, b ∈ fp
  frame : ∀ i h h', St i h → (∀ b ∈ fp, ∀ o, h.get? b = some o → h'.get? b = some o) → St i h'
  turn : ∀ i (s : Shared) (Q : Value → Shared → Prop) (E : Value → Shared → Prop), i < n → St i s.heap →
    (∀ v h' tk, D i v h' → St (i + 1) h' → (∀ b o, b ∉ wr → s.heap.get? b = some o → h'.get? b = some o) → Q v { s with heap := h', toks := tk }) →
    wpAny (model c.prog c.w) A (pyNext (.ref I)) (fun r s₁ => ∃ v, r = some v ∧ wpAny (model c.prog c.w) A (letOwnedTupleGo target (.ref I) v) (fun _ s₂ => Q v s₂) E s₁) E s
  done : ∀ (s : Shared) (Q : Option Value → Shared → Prop) (E : Value → Shared → Prop), St n s.heap →
    (∀ h' tk, (∀ b o, b ∉ wr → s.heap.get? b = some o → h'.get? b = some o) → Q none { s with heap := h', toks := tk }) → wpAny (model c.prog c.w) A (pyNext (.ref I)) Q E s
  there : ∀ i h, St i h → ∀ b ∈ fp, h.get? b ≠ none
  self : ∀ i (s : Shared) (Q : Value → Shared → Prop) (E : Value → Shared → Prop), St i s.heap → Q (.ref I) s → wpAny (model c.prog c.w) A (pyIter (.ref I)) Q E s
noncomputable def Gm (T : String) : Prop := (["enumerate", "zip", "dict_itemiterator", "dict_reverseitemiterator", "odict_iterator", "itertools.zip_longest", "itertools.pairwise"] : List String).contains T = false
set_option tactic.hygienic true in
theorem letGo_plain {M : Model} {A : Around} {E : Value → Shared → Prop} {s : Shared} {target : Expr} {I : Addr} {v : Value} {o : Obj} {T : String} {Q : Unit → Shared → Prop} (ho : s.heap.get? I = some o) (hc : o.cls = .type T) (hT : Gm T) (h : Q () s) :
    wpAny M A (letOwnedTupleGo target (.ref I) v) Q E s := by
  have key : ∀ a : Addr, wpAny M A (do
      let o ← load I
      match o.cls, o.data with
      | .type n, .fields vs =>
        if ["enumerate", "zip", "dict_itemiterator", "dict_reverseitemiterator", "odict_iterator", "itertools.zip_longest", "itertools.pairwise"].contains n && vs[0]? == some (rawInt a) then
          rule "for.unpacks-the-owned-tuple"
          updateField I 0 .none
      | _, _ => pure ()) Q E s := by
    intro a
    refine wpAny_bind (wpAny_load ho ?_)
    rw [hc]
    cases hd : o.data <;> first | exact wpAny_pure h | skip
    rename_i vs
    have hT' := hT
    unfold Gm at hT'
    simp only [hT', Bool.false_and]
    exact wpAny_pure h
  cases target <;> first | exact wpAny_pure h | (cases v <;> first | exact wpAny_pure h | exact key _)
theorem Turns.ofWalks {c : Cx} {A : Around} {target : Expr} {I : Addr} {fp wr : List Addr} {n : Nat} {P : Nat → Value → Prop} {St : Nat → Heap → Prop} {T : String} (W : Walks c.prog c.w A I fp wr n P St) (hT : Gm T)
    (hI : ∀ i h, St i h → ∃ o, h.get? I = some o ∧ o.cls = .type T) (hfp : ∀ i h, St i h → ∀ b ∈ fp, h.get? b ≠ none) : Turns c A target I fp wr n (fun i v _ => P i v) St where
  sub := W.sub
  frame := W.frame
  turn := fun i s Q E hi st hQ => W.item i s _ E hi st fun v h' tk hP st' hk => ⟨v, rfl, by
    obtain ⟨o, ho, hc⟩ := hI _ _ st'
    exact letGo_plain ho hc hT (hQ v h' tk hP st' hk)⟩
  done := W.done
  there := hfp
  self := W.self
inductive Src (c : Cx) (A : Around) (target : Expr) (bad : Addr → Prop) (fs : List Addr) (cap : Bool) (s : Shared) (ys : List AV) (it : Value) (s₂ : Shared) : Prop where
  | mk (I : Addr) (fp wr : List Addr) (D : Nat → Value → Heap → Prop) (St : Nat → Heap → Prop) (e : it = .ref I) (T : Turns c A target I fp wr ys.length D St) (st : St 0 s₂.heap) (k : KpS fs s s₂) (hw : ∀ b ∈ wr, s.heap.get? b = none) (hf : ∀ b ∈ fp, b ∉ fs) (hc : cap = true → ∀ b ∈ fp, ¬ bad b) (hd : ∀ b ∈ fp, s₂.heap.get? b ≠ none)
    (hD : ∀ i v h' bad', Eo s.heap h' bad bad' → D i v h' → ∃ y, ys[i]? = some y ∧ DenT c h' bad' y v ∧ (isName target = true → ∀ a, v = .ref a → ¬ bad' a))
section
variable {c : Cx} {A : Around} {bad : Addr → Prop} {fs : List Addr} {s : Shared} {target : Expr}
theorem src_list {x : Addr} {vs : List Value} {ys : List AV} {cap : Bool} (a : At c A bad fs s) (hl : s.heap.IsList x vs.toArray) (hd : DenL c s.heap bad ys vs) (hf : x ∉ fs) (hb : cap = true → ¬ bad x) :
    wpAny (model c.prog c.w) A (pyIter (.ref x)) (Src c A target bad fs cap s ys) (fun _ _ => False) s := by
  refine wpAny_pyIter_list hl ?_
  have hlen := hd.length
  have hx : s.heap.get? x ≠ none := by obtain ⟨o, ho, _⟩ := hl; rw [ho]; simp
  have hlt : x < s.heap.objs.size := by obtain ⟨o, ho, _⟩ := hl; exact Heap.lt_size ho
  have hne : x ≠ s.heap.objs.size := Nat.ne_of_lt hlt
  have W := Walks.list (prog := c.prog) (w := c.w) a.room.handled s.heap.objs.size x hne vs.toArray
  have nb : ¬ bad s.heap.objs.size := fun q => a.badD _ q (Az _)
  refine ⟨s.heap.objs.size, [s.heap.objs.size, x], [s.heap.objs.size], fun i v _ => vs.toArray[i]? = some v, fun i h => h.IsListIter s.heap.objs.size x i ∧ h.IsList x vs.toArray, rfl, ?_, ?_, Kf, ?_, ?_, ?_, ?_, ?_⟩
  · have W' := Turns.ofWalks (target := target) (T := "list_iterator") W (by unfold Gm; decide) (fun i h st => by obtain ⟨⟨o, ho, hc, _⟩, _⟩ := st; exact ⟨o, ho, hc⟩) (fun i h st b hb' => by
      obtain ⟨⟨o, ho, _⟩, ⟨o', ho', _⟩⟩ := st; simp at hb'; rcases hb' with rfl | rfl
      · rw [ho]; simp
      · rw [ho']; simp)
    have e0 : vs.toArray.size = ys.length := by simp [hlen]
    rw [e0] at W'
    exact W'
  · exact ⟨⟨_, Heap.get?_push_size _ rfl, rfl, rfl⟩, hl.push _⟩
  · intro b hb; simp at hb; subst hb; exact Az _
  · intro b hb; simp at hb
    rcases hb with rfl | rfl
    · exact fun q => nb (a.fsb _ q)
    · exact hf
  · intro hc b hb'; simp at hb'
    rcases hb' with rfl | rfl
    · exact nb
    · exact hb hc
  · intro b hb'; simp at hb'
    rcases hb' with rfl | rfl
    · rw [Heap.get?_push_size _ rfl]; simp
    · exact Fq hx fun o q => ⟨_, Heap.get?_push_of_some _ q⟩
  · intro i v h' bad' k hP
    have hd' : DenL c h' bad' ys vs := DenL.carry k _ _ hd
    have hi : i < vs.length := by
      have := (List.getElem?_eq_some_iff.mp (show vs[i]? = some v by simpa using hP)).1; exact this
    obtain ⟨y, hy⟩ : ∃ y, ys[i]? = some y := ⟨_, List.getElem?_eq_getElem (by lia)⟩
    obtain ⟨u, hu, du⟩ := hd'.get hy
    have : u = v := by
      have h1 : vs[i]? = some v := by simpa using hP
      rw [hu] at h1; exact Option.some.inj h1
    subst this
    exact ⟨y, hy, du.1, fun _ => du.2⟩
theorem src_tuple {x : Addr} {vs : List Value} {ys : List AV} {cap : Bool} (a : At c A bad fs s) (hl : s.heap.IsTuple x vs.toArray) (hd : DenL c s.heap bad ys vs) (hf : x ∉ fs) (hb : cap = true → ¬ bad x) :
    wpAny (model c.prog c.w) A (pyIter (.ref x)) (Src c A target bad fs cap s ys) (fun _ _ => False) s := by
  refine wpAny_pyIter_tuple hl ?_
  have hlen := hd.length
  have hx : s.heap.get? x ≠ none := by obtain ⟨o, ho, _⟩ := hl; rw [ho]; simp
  have hlt : x < s.heap.objs.size := by obtain ⟨o, ho, _⟩ := hl; exact Heap.lt_size ho
  have hne : x ≠ s.heap.objs.size := Nat.ne_of_lt hlt
  have W := Walks.tuple (prog := c.prog) (w := c.w) a.room.handled s.heap.objs.size x hne vs.toArray
  have nb : ¬ bad s.heap.objs.size := fun q => a.badD _ q (Az _)
  refine ⟨s.heap.objs.size, [s.heap.objs.size, x], [s.heap.objs.size], fun i v _ => vs.toArray[i]? = some v, fun i h => h.IsTupleIter s.heap.objs.size x i ∧ h.IsTuple x vs.toArray, rfl, ?_, ?_, Kf, ?_, ?_, ?_, ?_, ?_⟩
  · have W' := Turns.ofWalks (target := target) (T := "tuple_iterator") W (by unfold Gm; decide) (fun i h st => by obtain ⟨⟨o, ho, hc, _⟩, _⟩ := st; exact ⟨o, ho, hc⟩) (fun i h st b hb' => by
      obtain ⟨⟨o, ho, _⟩, ⟨o', ho', _⟩⟩ := st; simp at hb'; rcases hb' with rfl | rfl
      · rw [ho]; simp
      · rw [ho']; simp)
    have e0 : vs.toArray.size = ys.length := by simp [hlen]
    rw [e0] at W'
    exact W'
  · exact ⟨⟨_, Heap.get?_push_size _ rfl, rfl, rfl⟩, hl.push _⟩
  · intro b hb; simp at hb; subst hb; exact Az _
  · intro b hb; simp at hb
    rcases hb with rfl | rfl
    · exact fun q => nb (a.fsb _ q)
    · exact hf
  · intro hc b hb'; simp at hb'
    rcases hb' with rfl | rfl
    · exact nb
    · exact hb hc
  · intro b hb'; simp at hb'
    rcases hb' with rfl | rfl
    · rw [Heap.get?_push_size _ rfl]; simp
    · exact Fq hx fun o q => ⟨_, Heap.get?_push_of_some _ q⟩
  · intro i v h' bad' k hP
    have hd' : DenL c h' bad' ys vs := DenL.carry k _ _ hd
    have hi : i < vs.length := by
      have := (List.getElem?_eq_some_iff.mp (show vs[i]? = some v by simpa using hP)).1; exact this
    obtain ⟨y, hy⟩ : ∃ y, ys[i]? = some y := ⟨_, List.getElem?_eq_getElem (by lia)⟩
    obtain ⟨u, hu, du⟩ := hd'.get hy
    have : u = v := by
      have h1 : vs[i]? = some v := by simpa using hP
      rw [hu] at h1; exact Option.some.inj h1
    subst this
    exact ⟨y, hy, du.1, fun _ => du.2⟩
theorem src_range {r : Addr} {x y z : Int} {t u v : Tok} {cap : Bool} (a : At c A bad fs s) (hr : IsRange s.heap r x y z t u v) (hs : Builtin.Range.small x y z = true) :
    wpAny (model c.prog c.w) A (pyIter (.ref r)) (Src c A target bad fs cap s ((Ex x y z).map .int)) (fun _ _ => False) s := by
  refine wpAny_pyIter_range hr hs ?_
  have hn : 0 ≤ Builtin.Range.rangeSize x y z := by
    unfold Builtin.Range.rangeSize
    split
    · split
      · have : 0 ≤ (y - x - 1) / z := Int.ediv_nonneg (by lia) (by exact Int.le_of_lt ‹_›)
        lia
      · decide
    · split
      · by_cases hz : z = 0
        · subst hz; simp
        · have : 0 ≤ (x - y - 1) / (-z) := Int.ediv_nonneg (by lia) (by lia)
          lia
      · decide
  obtain ⟨n, hn⟩ := Int.eq_ofNat_of_zero_le hn
  have W := Walks.range (prog := c.prog) (w := c.w) a.room.handled s.heap.objs.size x z n
  have nb : ¬ bad s.heap.objs.size := fun q => a.badD _ q (Az _)
  have hlen : ((Ex x y z).map AV.int).length = n := by simp [Ex, hn]
  refine ⟨s.heap.objs.size, [s.heap.objs.size], [s.heap.objs.size], fun i v _ => i < n ∧ ∃ t, v = .int (x + i * z) t, fun i h => i ≤ n ∧ IsRangeIter h s.heap.objs.size (x + (i : Nat) * z) ((n : Int) - (i : Nat)) z, rfl, ?_, ?_, Kf, ?_, ?_, ?_, ?_, ?_⟩
  · rw [hlen]
    exact {
      sub := fun _ hb => hb
      frame := fun i h h' st hk => ⟨st.1, W.frame i h h' st.2 hk⟩
      turn := fun i s' Q E hi st hQ => W.item i s' _ E hi st.2 fun v h' tk hP st' hk => ⟨v, rfl, letGo_plain (T := "range_iterator") st' rfl (by unfold Gm; decide) (hQ v h' tk ⟨hi, hP⟩ ⟨hi, st'⟩ hk)⟩
      done := fun s' Q E st hQ => W.done s' Q E st.2 hQ
      there := fun i h st b hb' => by
        simp at hb'; subst hb'; have := st.2; unfold IsRangeIter at this; rw [this]; simp
      self := fun i s' Q E st hQ => W.self i s' Q E st.2 hQ }
  · refine ⟨Nat.zero_le _, ?_⟩
    have : IsRangeIter (s.heap.push { cls := .type "range_iterator", data := .fields #[rawInt x, rawInt (Builtin.Range.rangeSize x y z), rawInt z] }) s.heap.objs.size x (Builtin.Range.rangeSize x y z) z := Heap.get?_push_size _ rfl
    rw [hn] at this
    simpa [hn] using this
  · intro b hb; simp at hb; subst hb; exact Az _
  · intro b hb; simp at hb; subst hb; exact fun q => nb (a.fsb _ q)
  · intro hc b hb'; simp at hb'; subst hb'; exact nb
  · intro b hb'; simp at hb'; subst hb'
    rw [Heap.get?_push_size _ rfl]; simp
  · intro i v h' bad' k hP
    obtain ⟨hi, t, rfl⟩ := hP
    refine ⟨.int (x + i * z), ?_, by simp [DenT], by intro _ a e; cases e⟩
    simp [Ex, hn, hi]
theorem Ap.length : ∀ {es : List (Int × Int)} {kvs : List (Int × Value)}, Ap es kvs → kvs.length = es.length
  | [], _, h => by simp only [Ap] at h; subst h; rfl
  | (a, b) :: r, _, h => by
    simp only [Ap] at h
    obtain ⟨t, w, rfl, hr⟩ := h
    simp [hr.length]
theorem Ap.get : ∀ {es : List (Int × Int)} {kvs : List (Int × Value)}, Ap es kvs → ∀ {i : Nat} {k : Int} {x : Value}, kvs[i]? = some (k, x) → ∃ e, es[i]? = some e ∧ e.1 = k
  | [], _, h, i, k, x, q => by simp only [Ap] at h; subst h; simp at q
  | (a, b) :: r, _, h, i, k, x, q => by
    simp only [Ap] at h
    obtain ⟨t, w, rfl, hr⟩ := h
    cases i with
    | zero => simp at q; exact ⟨_, rfl, q.1⟩
    | succ i => simp at q; obtain ⟨e, h1, h2⟩ := hr.get q; exact ⟨e, by simpa using h1, h2⟩
theorem src_dict {x : Addr} {es : List (Int × Int)} {kvs : List (Int × Value)} {cap : Bool} (a : At c A bad fs s) (hl : s.heap.DictOf (intKind c.prog c.w) x kvs) (hd : Ap es kvs) (h0 : (x == sysModules) = false) (hf : x ∉ fs) (hb : cap = true → ¬ bad x) :
    wpAny (model c.prog c.w) A (pyIter (.ref x)) (Src c A target bad fs cap s (es.map fun e => .int e.1)) (fun _ _ => False) s := by
  obtain ⟨ep, hl⟩ := hl.dictAt
  refine wpAny_pyIter_dict (knd := intKind c.prog c.w) h0 hl ?_
  have hlen := hd.length
  have hlt : x < s.heap.objs.size := hl.lt_size
  have hx : s.heap.get? x ≠ none := by obtain ⟨o, es, ho, _⟩ := hl; rw [ho]; simp
  have hne : x ≠ s.heap.objs.size := Nat.ne_of_lt hlt
  have W := Walks.dictKeys (knd := intKind c.prog c.w) a.room.handled s.heap.objs.size x hne kvs ep
  have nb : ¬ bad s.heap.objs.size := fun q => a.badD _ q (Az _)
  refine ⟨s.heap.objs.size, [s.heap.objs.size, x], [s.heap.objs.size], fun i v _ => ∃ k x, kvs[i]? = some (k, x) ∧ (intKind c.prog c.w).is k v = true, fun i h => h.IsKeyIter s.heap.objs.size x i kvs.length ep ∧ h.DictAt (intKind c.prog c.w) x kvs ep, rfl, ?_, ?_, Kf, ?_, ?_, ?_, ?_, ?_⟩
  · have W' := Turns.ofWalks (target := target) (T := "dict_keyiterator") W (by unfold Gm; decide) (fun i h st => by obtain ⟨⟨o, ho, hc, _⟩, _⟩ := st; exact ⟨o, ho, hc⟩) (fun i h st b hb' => by
      obtain ⟨⟨o, ho, _⟩, ⟨o', es', ho', _⟩⟩ := st; simp at hb'; rcases hb' with rfl | rfl
      · rw [ho]; simp
      · rw [ho']; simp)
    have e0 : kvs.length = (es.map fun e => AV.int e.1).length := by simp [hlen]
    rw [e0] at W'
    rw [e0]
    exact W'
  · exact ⟨⟨_, Heap.get?_push_size _ rfl, rfl, rfl⟩, hl.push _⟩
  · intro b hb; simp at hb; subst hb; exact Az _
  · intro b hb; simp at hb
    rcases hb with rfl | rfl
    · exact fun q => nb (a.fsb _ q)
    · exact hf
  · intro hc b hb'; simp at hb'
    rcases hb' with rfl | rfl
    · exact nb
    · exact hb hc
  · intro b hb'; simp at hb'
    rcases hb' with rfl | rfl
    · rw [Heap.get?_push_size _ rfl]; simp
    · exact Fq hx fun o q => ⟨_, Heap.get?_push_of_some _ q⟩
  · intro i v h' bad' k hP
    obtain ⟨key, w, h1, h2⟩ := hP
    obtain ⟨e, h3, rfl⟩ := hd.get h1
    obtain ⟨t, rfl⟩ := Value.isInt_shape h2
    exact ⟨.int e.1, by simp [h3], by simp [DenT], by intro _ a e; cases e⟩
theorem src_ok {x : AV} {ys : List AV} {v : Value} {cap : Bool} (a : At c A bad fs s) (hi : Ff x = some ys) (d : DenR c s.heap bad fs x v) (hb : cap = true → ∀ p, v = .ref p → ¬ bad p) :
    wpAny (model c.prog c.w) A (pyIter v) (Src c A target bad fs cap s ys) (fun _ _ => False) s := by
  obtain ⟨d, hf⟩ := d
  cases x <;> simp only [Ff] at hi <;> first | (cases hi; done) | skip
  · cases hi; simp only [DenT] at d; obtain ⟨p, vs, rfl, hp, _, hd⟩ := d
    exact src_list a hp hd.denL (hf p rfl) fun q => hb q p rfl
  · cases hi; simp only [DenT] at d; obtain ⟨p, vs, rfl, hp, _, hd⟩ := d
    exact src_list a hp hd (hf p rfl) fun q => hb q p rfl
  · cases hi; simp only [DenT] at d; obtain ⟨p, vs, rfl, hp, _, hd⟩ := d
    exact src_tuple a hp hd (hf p rfl) fun q => hb q p rfl
  · cases hi; simp only [DenT] at d; obtain ⟨p, kvs, rfl, hp, _, hd, h0⟩ := d
    exact src_dict a hp hd h0 (hf p rfl) fun q => hb q p rfl
end
end Mine
end
section
open PySem PyProof.Rows PySem.SeqAt
namespace Mine
set_option tactic.hygienic false
set_option autoImplicit false
noncomputable def Go (h : Heap) (fs : List Addr) : Heap := fs.foldl (fun h a => h.hide a) h
noncomputable def ExcPost (c : Cx) (A : Around) (s : Shared) (e : Value) (s' : Shared) : Prop :=
  ∃ ea a0 l h' tk, e = .ref ea ∧ A.frames = some l ∧ s' = { s with heap := h', toks := tk } ∧ Kp (Ac A) s.heap h' ∧ Heap.FlyingW (Go s.heap (Ac A)) l ea (.type "ValueError") a0 h'
noncomputable def ResPost (c : Cx) (A : Around) (bad : Addr → Prop) (fresh : Bool) (s : Shared) (r : Res) (v : Value) (s' : Shared) : Prop :=
  ∃ x, r = .val x ∧ PE c (Ac A) bad true fresh s x v s'
noncomputable def ResExc (c : Cx) (A : Around) (s : Shared) (r : Res) (e : Value) (s' : Shared) : Prop := r = .exc ∧ ExcPost c A s e s'
noncomputable def FnOk (c : Cx) (d : Nat) (f : Nat) (args : List AV) (r : Res) : Prop :=
  ∀ (A : Around) (s : Shared) (vs : List Value) (bad : Addr → Prop), Room A d → FrOk A s.heap → (∀ b o, c.hG.get? b = some o → s.heap.get? b = some o) → (∀ b, bad b → c.hG.get? b = none) → (∀ b, bad b → s.heap.get? b ≠ none) →
    (∀ b ∈ Ac A, bad b) → DenL c s.heap bad args vs →
    wpAny (model c.prog c.w) A (call (.ref (c.fa f)) vs) (ResPost c A bad (c.fresh f) s r) (ResExc c A s r) s
noncomputable def SE (c : Cx) (d : Nat) (ce : CE) (cap : Bool) (e : Expr) (m : ME) : Prop :=
  ∀ (A : Around) (env : Env) (σ : St) (bad : Addr → Prop) (s : Shared) (av : AV), Room A d → EVis c A ce env σ bad s.heap → Ae c.G c.F m σ = some av →
    wpAny (model c.prog c.w) A (eval e env) (PE c (Ac A) bad cap (Iz c.fresh m) s av) (fun _ _ => False) s
noncomputable def SB (c : Cx) (d : Nat) (ce : CE) (e : Expr) (m : ME) : Prop :=
  ∀ (A : Around) (env : Env) (σ : St) (bad : Addr → Prop) (s : Shared) (b : Bool), Room A d → EVis c A ce env σ bad s.heap → Bb c.G c.F m σ = some b →
    wpAny (model c.prog c.w) A (isTrue e env (eval e env)) (fun b' s' => b' = b ∧ KpS (Ac A) s s') (fun _ _ => False) s
theorem Room.le {A : Around} {d d' : Nat} (r : Room A d) (h : d' ≤ d) : Room A d' := ⟨r.handled, by have := r.depth; lia, by have := r.units; lia, r.frames⟩
theorem EVis.at {c : Cx} {A : Around} {ce : CE} {env : Env} {σ : St} {bad : Addr → Prop} {s : Shared} {d : Nat} (ok : c.Ok) (r : Room A d) (x : EVis c A ce env σ bad s.heap) : At c A bad (Ac A) s :=
  ⟨ok, r.le (Nat.zero_le _), x.ground, x.badD, x.fsb⟩
theorem EVis.kpS {c : Cx} {A : Around} {ce : CE} {env : Env} {σ : St} {bad : Addr → Prop} {s s' : Shared} (x : EVis c A ce env σ bad s.heap) (k : KpS (Ac A) s s') : EVis c A ce env σ bad s'.heap := x.kp k.heap
theorem DenR.kpS {c : Cx} {A : Around} {x : AV} {v : Value} {bad : Addr → Prop} {s s' : Shared} (d : DenR c s.heap bad (Ac A) x v) (k : KpS (Ac A) s s') (hf : ∀ b ∈ Ac A, bad b) : DenR c s'.heap bad (Ac A) x v := d.kp k.heap hf
theorem PE.after {c : Cx} {fs : List Addr} {bad : Addr → Prop} {cap fr : Bool} {s₀ s s' : Shared} {z : AV} {r : Value} (k : KpS fs s₀ s) (p : PE c fs bad cap fr s z r s') : PE c fs bad cap fr s₀ z r s' :=
  ⟨k.trans p.1, p.2.1, p.2.2.1, fun e a q => k.heap.dom (p.2.2.2 e a q)⟩
theorem PE.drop {c : Cx} {fs : List Addr} {bad : Addr → Prop} {cap fr : Bool} {s s' : Shared} {z : AV} {r : Value} (p : PE c fs bad cap fr s z r s') : PE c fs bad cap false s z r s' := ⟨p.1, p.2.1, p.2.2.1, fun e => by cases e⟩
theorem PE.uncap {c : Cx} {fs : List Addr} {bad : Addr → Prop} {fr : Bool} {s s' : Shared} {z : AV} {r : Value} (p : PE c fs bad true fr s z r s') (cap : Bool) : PE c fs bad cap fr s z r s' := ⟨p.1, p.2.1, fun _ => p.2.2.1 rfl, p.2.2.2⟩
section
variable {c : Cx} {d : Nat} {ce : CE} {cap : Bool}
theorem SE.const_int (i : Int) (k : Nat) (p : Pos) : SE c d ce cap (.Constant (.int i) k p) (.lit (.int i)) := fun A env σ bad s av r v e => by
  simp only [K9] at e; cases e
  exact wpAny_Constant_int (.int (.tok ..))
theorem SE.const_none (k : Nat) (p : Pos) : SE c d ce cap (.Constant .none k p) (.lit .none) := fun A env σ bad s av r v e => by
  simp only [K9] at e; cases e
  exact wpAny_Constant_none (.vnone (.refl ..))
theorem SE.const_bool (b : Bool) (k : Nat) (p : Pos) : SE c d ce cap (.Constant (.bool b) k p) (.lit (.bool b)) := fun A env σ bad s av r v e => by
  simp only [K9] at e; cases e
  exact wpAny_Constant_bool (.bool (.refl ..))
theorem SE.const_str (x : Str) (k : Nat) (p : Pos) (hx : x.cps.size ≤ LIM) : SE c d ce cap (.Constant (.str x) k p) (.lit (.str x.cps.toList)) := fun A env σ bad s av r v e => by
  simp only [K9] at e; cases e
  refine wpAny_Constant_str ?_
  have := PE.str (c := c) (fs := Ac A) (bad := bad) (cap := cap) (fr := Iz c.fresh (.lit (.str x.cps.toList))) (t := s.toks) (KpS.tok (Ac A) s (s.toks + 1)) (x := x.cps.toList) (by simpa using hx)
  simpa using this
theorem load_var {A : Around} {env : Env} {s : Shared} {x : Str} {v : Value} {Q : Value → Shared → Prop} {E : Value → Shared → Prop} {p : Pos} (hk : env.scope.kind = .function) (hd : (x == ("__debug__" : Str)) = false) (l : Ho env s.heap x v) (h : Q v s) :
    wpAny (model c.prog c.w) A (eval (.Name x p) env) Q E s := by
  refine wpAny_Name ?_ hd
  rcases l with ⟨e, m, n, q⟩ | ⟨e, a, q, n⟩
  · exact wpAny_loadName_local hk e n q h
  · exact wpAny_loadName_cell hk e q n h
theorem SE.var {x : Str} {i : Nat} (p : Pos) (hd : (x == ("__debug__" : Str)) = false) (hv : ce.vm.lookup x = some i) : SE c d ce true (.Name x p) (.var i) := fun A env σ bad s av r v e => by
  have q := iF e
  obtain ⟨u, l, dn, nb⟩ := v.var x i false _ hv q
  exact load_var v.kind hd l ⟨.refl .., dn, fun _ => nb rfl, fun e => by cases e⟩
theorem SE.rd {x : Str} {i : Nat} (p : Pos) (hd : (x == ("__debug__" : Str)) = false) (hv : ce.vm.lookup x = some i) : SE c d ce false (.Name x p) (.rd i) := fun A env σ bad s av r v e => by
  obtain ⟨_, _, q, e⟩ := iO e
  obtain rfl := Option.some.inj e
  obtain ⟨u, l, dn, nb⟩ := v.var x i _ _ hv q
  exact load_var v.kind hd l ⟨.refl .., dn, fun e => (by cases e), fun e => (by cases e)⟩
theorem GlobIs.load {A : Around} {env : Env} {s : Shared} {x : Str} {v : Value} {Q : Value → Shared → Prop} {E : Value → Shared → Prop} {p : Pos} {M : Model} {h : Heap} (g : GlobIs h x v) (hk : env.scope.kind = .function) (hg : env.globals = mainGlobals) (hb : env.builtins = builtinsNs)
    (hx : env.kindOf x = some .globalImplicit) (hd : (x == ("__debug__" : Str)) = false) (k : ∀ b o, h.get? b = some o → s.heap.get? b = some o) (q : Q v s) : wpAny M A (eval (.Name x p) env) Q E s := by
  obtain ⟨mg, mb, h1, h2, h3⟩ := g
  refine Calls.Name_function_global hk hx ?_ hd
  rcases h3 with h3 | ⟨h3, h4⟩
  · exact Calls.loadGlobal_global (by rw [hg]; exact h1.keeps k) h3 q
  · exact Calls.loadGlobal_builtin (by rw [hg]; exact h1.keeps k) h3 (by rw [hb]; exact h2.keeps k) h4 q
set_option tactic.hygienic true in
theorem ce_glob {x : Str} {k : GK} (h : ce.glob x = some k) : ce.scope.names.lookup x = some .globalImplicit ∧ ce.gt.lookup x = some k := by
  unfold CE.glob at h
  split at h
  · cases h
  · split at h
    · rename_i q; exact ⟨by simpa using q, h⟩
    · cases h
set_option tactic.hygienic true in
theorem Be {x : Str} {k : GK} (h : ce.glob x = some k) : (x == ("__debug__" : Str)) = false := by
  unfold CE.glob at h
  split at h
  · cases h
  · rename_i q; simpa using q
theorem Et {A A' : Around} {env : Env} {σ : St} {bad : Addr → Prop} {s : Shared} {x : Str} {k : GK} {p : Pos} {Q : Value → Shared → Prop} {E : Value → Shared → Prop} (ok : c.Ok) (v : EVis c A ce env σ bad s.heap) (hx : ce.glob x = some k) (hd : (x == ("__debug__" : Str)) = false)
    (h : ∀ u, Hy c x k u → Q u s) : wpAny (model c.prog c.w) A' (eval (.Name x p) env) Q E s := by
  obtain ⟨h1, h2⟩ := ce_glob hx
  rw [v.gt] at h2
  obtain ⟨u, g, m⟩ := ok.glob x k h2
  exact g.load v.kind v.globs v.blts (v.gk x h1) hd v.ground (h u m)
theorem SE.glob {x : Str} (ok : c.Ok) (p : Pos) (hd : (x == ("__debug__" : Str)) = false) (hx : ce.glob x = some .tab) : SE c d ce cap (.Name x p) (.glob x) := fun A env σ bad s av r v e => by
  simp only [Q2] at e
  refine Et ok v hx hd fun u m => ?_
  have dn := m av e
  have dn' : Den c s.heap bad av u := dn.carry ⟨fun b o _ q => v.ground b o q, fun b _ q => fun hb => q (v.badG b hb)⟩
  exact (PE.there (.refl ..) v.fsb dn')
theorem SE.bin {l r : Expr} {a b : ME} {op : BOp} (p : Pos) (ok : c.Ok) (ha : SE c d ce false l a) (hb : SE c d ce false r b) : SE c d ce cap (.BinOp l (opOf op) r p) (.bin op a b) := fun A env σ bad s av rm v e => by
  replace e := i2 e
  obtain ⟨x, y, qa, qb, e⟩ := e
  refine wpAny_BinOp (wpAny_mono (ha A env σ bad s x rm v qa) (fun u s₁ h₁ => ?_) fun _ _ q => q)
  refine wpAny_mono (hb A env σ bad s₁ y rm (v.kpS h₁.1) qb) (fun w s₂ h₂ => ?_) fun _ _ q => q
  have v₂ := (v.kpS h₁.1).kpS h₂.1
  exact wpAny_mono (binop_ok (v₂.at ok rm) e (h₁.2.1.kpS h₂.1 v.fsb) h₂.2.1 cap _) (fun z s₃ h₃ => PE.after (h₁.1.trans h₂.1) h₃) fun _ _ q => q
theorem SE.neg {x : Expr} {a : ME} (p : Pos) (ha : SE c d ce false x a) : SE c d ce cap (.UnaryOp .USub x p) (.neg a) := fun A env σ bad s av rm v e => by
  obtain ⟨i, qa, e⟩ := iI e
  obtain rfl := Option.some.inj e
  refine wpAny_UnaryOp (wpAny_mono (ha A env σ bad s _ rm v qa) (fun u s₁ h₁ => ?_) fun _ _ q => q)
  have dn := h₁.2.1.1
  simp only [DenT] at dn
  obtain ⟨t, rfl⟩ := dn
  exact P.neg_int (.int (h₁.1.trans (.tok ..)))
theorem SB.of {e : Expr} {m : ME} (ok : c.Ok) (h : SE c d ce false e m) (he : ∀ (env : Env) (whole : Sem Value), isTrue e env whole = (do let v ← whole; standAt e.pos; holding [v] (PySem.truthy v))) : SB c d ce e m := fun A env σ bad s b rm v q => by
  unfold Bb at q
  cases qa : Ae c.G c.F m σ with
  | none => rw [qa] at q; cases q
  | some x =>
    rw [qa] at q
    refine wpAny_isTrue_value (wpAny_mono (h A env σ bad s x rm v qa) (fun u s₁ h₁ => ?_) fun _ _ q => q) (he env _)
    exact Hs ((v.kpS h₁.1).at ok rm) q h₁.2.1 fun s' k => ⟨rfl, h₁.1.trans k⟩
theorem SE.not {x : Expr} {a : ME} (ok : c.Ok) (p : Pos) (ha : SE c d ce false x a) : SE c d ce cap (.UnaryOp .Not x p) (.not a) := fun A env σ bad s av rm v e => by
  replace e := i1 e
  obtain ⟨z, qa, e⟩ := e
  replace e := mS e
  · obtain ⟨b, e, rfl⟩ := e
    refine wpAny_UnaryOp (wpAny_mono (ha A env σ bad s _ rm v qa) (fun u s₁ h₁ => ?_) fun _ _ q => q)
    exact not_value (Hs ((v.kpS h₁.1).at ok rm) e h₁.2.1 fun s' k => .bool (h₁.1.trans k))
theorem SB.not {x : Expr} {a : ME} (p : Pos) (ha : SB c d ce x a) : SB c d ce (.UnaryOp .Not x p) (.not a) := fun A env σ bad s b rm v e => by
  obtain ⟨w, e, et⟩ := iD e
  obtain ⟨z, qa, e⟩ := i1 e
  obtain ⟨t, qb, rfl⟩ := mS e
  obtain rfl := Option.some.inj et
  refine wpAny_isTrue_Not (wpAny_mono (ha A env σ bad s _ rm v (by unfold Bb; rw [qa]; exact qb)) (fun u s₁ h₁ => ?_) fun _ _ q => q)
  obtain ⟨rfl, k⟩ := h₁
  exact ⟨by simp, k⟩
theorem SE.cmp {l r : Expr} {a b : ME} {op : COp} (ok : c.Ok) (p : Pos) (ha : SE c d ce false l a) (hb : SE c d ce false r b) (hm : behindInMarks (Gj op) r = false) (hn : (op = .isNone ∨ op = .isNotNone) → b = .lit .none) :
    SE c d ce cap (.Compare l [Gj op] [r] p) (.cmp op a b) := fun A env σ bad s av rm v e => by
  replace e := i2 e
  obtain ⟨x, y, qa, qb, e⟩ := e
  replace e := mS e
  obtain ⟨t, e, rfl⟩ := e
  refine wpAny_Compare1 (wpAny_mono (ha A env σ bad s x rm v qa) (fun u s₁ h₁ => ?_) fun _ _ q => q) hm
  refine wpAny_mono (hb A env σ bad s₁ y rm (v.kpS h₁.1) qb) (fun w s₂ h₂ => ?_) fun _ _ q => q
  have v₂ := (v.kpS h₁.1).kpS h₂.1
  refine cmpop_ok (v₂.at ok rm) e (h₁.2.1.kpS h₂.1 v.fsb) h₂.2.1 (fun q => ?_) (.bool (h₁.1.trans h₂.1))
  have := hn q; subst this
  simp only [K9] at qb; cases qb
  have := h₂.2.1.1; simpa only [DenT] using this
theorem SB.cmp {l r : Expr} {a b : ME} {op : COp} (ok : c.Ok) (p : Pos) (ha : SE c d ce false l a) (hb : SE c d ce false r b) (hm : behindInMarks (Gj op) r = false) (hn : (op = .isNone ∨ op = .isNotNone) → b = .lit .none) :
    SB c d ce (.Compare l [Gj op] [r] p) (.cmp op a b) := fun A env σ bad s bb rm v e => by
  obtain ⟨w, e, et⟩ := iD e
  obtain ⟨x, y, qa, qb, e⟩ := i2 e
  obtain ⟨t, qc, rfl⟩ := mS e
  obtain rfl := Option.some.inj et
  refine wpAny_isTrue_Compare1 (wpAny_mono (ha A env σ bad s x rm v qa) (fun u s₁ h₁ => ?_) fun _ _ q => q) hm
  refine wpAny_mono (hb A env σ bad s₁ y rm (v.kpS h₁.1) qb) (fun w s₂ h₂ => ?_) fun _ _ q => q
  have v₂ := (v.kpS h₁.1).kpS h₂.1
  refine cmpop_ok (v₂.at ok rm) qc (h₁.2.1.kpS h₂.1 v.fsb) h₂.2.1 (fun q => ?_) (wpAny_truthy_bool ⟨rfl, h₁.1.trans h₂.1⟩)
  have := hn q; subst this
  simp only [K9] at qb; cases qb
  have := h₂.2.1.1; simpa only [DenT] using this
theorem SE.and {x : Expr} {y : Expr} {rest : List Expr} {a b : ME} (ok : c.Ok) (p : Pos) (ha : SE c d ce cap x a) (hb : SE c d ce cap (.BoolOp .And (y :: rest) p) b) : SE c d ce cap (.BoolOp .And (x :: y :: rest) p) (.and a b) := fun A env σ bad s av rm v e => by
  replace e := i1 e
  obtain ⟨z, qa, e⟩ := e
  · refine BoolOp_and (wpAny_mono (ha A env σ bad s _ rm v qa) (fun u s₁ h₁ => ?_) fun _ _ q => q)
    rcases iB e with ⟨qt, e⟩ | ⟨qt, e⟩
    · refine Hs ((v.kpS h₁.1).at ok rm) qt h₁.2.1 fun s' k => ?_
      rw [if_pos rfl]
      exact wpAny_mono (hb A env σ bad s' _ rm ((v.kpS h₁.1).kpS k) e) (fun z s₃ h₃ => (PE.after (h₁.1.trans k) h₃).drop) fun _ _ q => q
    · cases e
      refine Hs ((v.kpS h₁.1).at ok rm) qt h₁.2.1 fun s' k => ?_
      rw [if_neg (by simp)]
      exact ⟨h₁.1.trans k, h₁.2.1.kpS k v.fsb, h₁.2.2.1, fun q => (by cases q)⟩
theorem SE.or {x : Expr} {y : Expr} {rest : List Expr} {a b : ME} (ok : c.Ok) (p : Pos) (ha : SE c d ce cap x a) (hb : SE c d ce cap (.BoolOp .Or (y :: rest) p) b) : SE c d ce cap (.BoolOp .Or (x :: y :: rest) p) (.or a b) := fun A env σ bad s av rm v e => by
  replace e := i1 e
  obtain ⟨z, qa, e⟩ := e
  · refine BoolOp_or (wpAny_mono (ha A env σ bad s _ rm v qa) (fun u s₁ h₁ => ?_) fun _ _ q => q)
    rcases iB e with ⟨qt, e⟩ | ⟨qt, e⟩
    · cases e
      refine Hs ((v.kpS h₁.1).at ok rm) qt h₁.2.1 fun s' k => ?_
      rw [if_pos rfl]
      exact ⟨h₁.1.trans k, h₁.2.1.kpS k v.fsb, h₁.2.2.1, fun q => (by cases q)⟩
    · refine Hs ((v.kpS h₁.1).at ok rm) qt h₁.2.1 fun s' k => ?_
      rw [if_neg (by simp)]
      exact wpAny_mono (hb A env σ bad s' _ rm ((v.kpS h₁.1).kpS k) e) (fun z s₃ h₃ => (PE.after (h₁.1.trans k) h₃).drop) fun _ _ q => q
theorem SE.bool1 {x : Expr} {a : ME} {op : BoolOp} (p : Pos) (ha : SE c d ce cap x a) : SE c d ce cap (.BoolOp op [x] p) a := fun A env σ bad s av rm v e => BoolOp_one (ha A env σ bad s av rm v e)
noncomputable def SAll (c : Cx) (d : Nat) (ce : CE) (op : BoolOp) (es : List Expr) (m : ME) : Prop :=
  ∀ (A : Around) (env : Env) (σ : St) (bad : Addr → Prop) (s : Shared) (b : Bool), Room A d → EVis c A ce env σ bad s.heap → Bb c.G c.F m σ = some b →
    wpAny (model c.prog c.w) A (allTrue op es env) (fun b' s' => b' = b ∧ KpS (Ac A) s s') (fun _ _ => False) s
theorem SAll.one {x : Expr} {a : ME} {op : BoolOp} (ha : SB c d ce x a) : SAll c d ce op [x] a := fun A env σ bad s b rm v e => by
  cases op
  · refine wpAny_allTrue_And_cons (wpAny_mono (ha A env σ bad s b rm v e) (fun u s₁ h₁ => ?_) fun _ _ q => q)
    obtain ⟨rfl, k⟩ := h₁
    cases u
    · rw [if_neg (by simp)]; exact ⟨rfl, k⟩
    · rw [if_pos rfl]; exact wpAny_allTrue_And_nil ⟨rfl, k⟩
  · refine wpAny_allTrue_Or_cons (wpAny_mono (ha A env σ bad s b rm v e) (fun u s₁ h₁ => ?_) fun _ _ q => q)
    obtain ⟨rfl, k⟩ := h₁
    cases u
    · rw [if_neg (by simp)]; exact wpAny_allTrue_Or_nil ⟨rfl, k⟩
    · rw [if_pos rfl]; exact ⟨rfl, k⟩
theorem SAll.and {x : Expr} {r : List Expr} {a b : ME} (ha : SB c d ce x a) (hb : SAll c d ce .And r b) : SAll c d ce .And (x :: r) (.and a b) := fun A env σ bad s bb rm v e => by
  unfold Bb at e
  simp only [Q6] at e
  cases qa : Ae c.G c.F a σ with
  | none => rw [qa] at e; cases e
  | some z =>
    rw [qa] at e
    dsimp only at e
    cases qt : Aa z with
    | none => rw [qt] at e; cases e
    | some t =>
      rw [qt] at e
      refine wpAny_allTrue_And_cons (wpAny_mono (ha A env σ bad s t rm v (by unfold Bb; rw [qa]; exact qt)) (fun u s₁ h₁ => ?_) fun _ _ q => q)
      obtain ⟨rfl, k⟩ := h₁
      cases u
      · rw [if_neg (by simp)]
        have : Aa z = some bb := e
        rw [qt] at this; cases this; exact ⟨rfl, k⟩
      · rw [if_pos rfl]
        exact wpAny_mono (hb A env σ bad s₁ bb rm (v.kpS k) e) (fun z s₃ h₃ => ⟨h₃.1, k.trans h₃.2⟩) fun _ _ q => q
theorem SAll.or {x : Expr} {r : List Expr} {a b : ME} (ha : SB c d ce x a) (hb : SAll c d ce .Or r b) : SAll c d ce .Or (x :: r) (.or a b) := fun A env σ bad s bb rm v e => by
  unfold Bb at e
  simp only [Q7] at e
  cases qa : Ae c.G c.F a σ with
  | none => rw [qa] at e; cases e
  | some z =>
    rw [qa] at e
    dsimp only at e
    cases qt : Aa z with
    | none => rw [qt] at e; cases e
    | some t =>
      rw [qt] at e
      refine wpAny_allTrue_Or_cons (wpAny_mono (ha A env σ bad s t rm v (by unfold Bb; rw [qa]; exact qt)) (fun u s₁ h₁ => ?_) fun _ _ q => q)
      obtain ⟨rfl, k⟩ := h₁
      cases u
      · rw [if_neg (by simp)]
        exact wpAny_mono (hb A env σ bad s₁ bb rm (v.kpS k) e) (fun z s₃ h₃ => ⟨h₃.1, k.trans h₃.2⟩) fun _ _ q => q
      · rw [if_pos rfl]
        have : Aa z = some bb := e
        rw [qt] at this; cases this; exact ⟨rfl, k⟩
theorem SB.bool {op : BoolOp} {es : List Expr} {m : ME} (p : Pos) (h : SAll c d ce op es m) : SB c d ce (.BoolOp op es p) m := fun A env σ bad s b rm v e => wpAny_isTrue_BoolOp (h A env σ bad s b rm v e)
noncomputable def SL (c : Cx) (d : Nat) (ce : CE) (es : List Expr) (m : ME) : Prop :=
  ∀ (A : Around) (env : Env) (σ : St) (bad : Addr → Prop) (s : Shared) (pos : Pos) (avs : List AV), Room A d → EVis c A ce env σ bad s.heap → Ae c.G c.F m σ = some (.tup avs) →
    wpAny (model c.prog c.w) A (spliced (backTo pos (starEach es env))) (fun vs s' => KpS (Ac A) s s' ∧ DenL c s'.heap bad avs vs) (fun _ _ => False) s
noncomputable def Ai : Expr → Bool
  | .Starred .. => false
  | _ => true
theorem Ao {e : Expr} {r : List Expr} {env : Env} (h : Ai e = true) : starEach (e :: r) env = (false, eval e env) :: starEach r env := by
  cases e <;> first | rfl | (cases h; done)
theorem SL.nil : SL c d ce [] .nil := fun A env σ bad s pos avs rm v e => by
  simp only [K7] at e; cases e
  exact wpAny_items_nil ⟨.refl .., by simp [DenL]⟩
theorem SL.cons {x : Expr} {r : List Expr} {a b : ME} (hx : Ai x = true) (ha : SE c d ce true x a) (hb : SL c d ce r b) : SL c d ce (x :: r) (.cons a b) := fun A env σ bad s pos avs rm v e => by
  obtain ⟨z, zs, qa, qb, e⟩ := iC e
  replace e := Option.some.inj e
  cases e
  refine wpAny_items_cons (wpAny_mono (ha A env σ bad s z rm v qa) (fun u s₁ h₁ => ?_) fun _ _ q => q) (Ao hx)
  refine wpAny_mono (hb A env σ bad s₁ pos zs rm (v.kpS h₁.1) qb) (fun us s₂ h₂ => ?_) fun _ _ q => q
  refine ⟨h₁.1.trans h₂.1, ?_⟩
  simp only [DenL]
  exact ⟨u, us, rfl, (h₁.2.1.den (h₁.2.2.1 rfl)).kp h₂.1.heap v.fsb, h₂.2⟩
theorem SE.list {es : List Expr} {m : ME} (p : Pos) (h : SL c d ce es m) : SE c d ce cap (.List es p) (.list m) := fun A env σ bad s av rm v e => by
  obtain ⟨zs, qa, e⟩ := iT e
  obtain ⟨hlen, rfl⟩ := iS e
  · refine wpAny_List (wpAny_mono (h A env σ bad s p zs rm v qa) (fun vs s₁ h₁ => ?_) fun _ _ q => q)
    have hl := h₁.2.length
    have hll := Em
    refine ⟨by with_reducible exact (ZA ‹_› ‹_› ‹_›), PE.after h₁.1 ?_⟩
    have v₁ := v.kpS h₁.1
    exact .new Kf v.fsb v₁.badD (Az _) (den_mkL (Bg ..) (h₁.2.push _) hlen)
theorem SE.tup {es : List Expr} {m : ME} (k : Nat) (p : Pos) (h : SL c d ce es m) : SE c d ce cap (.Tuple es k p) (.tup m) := fun A env σ bad s av rm v e => by
  obtain ⟨zs, qa, e⟩ := iT e
  obtain ⟨hlen, rfl⟩ := iS e
  · refine wpAny_Tuple (wpAny_mono (h A env σ bad s p zs rm v qa) (fun vs s₁ h₁ => ?_) fun _ _ q => q)
    have hl := h₁.2.length
    have hll := Em
    refine ⟨by with_reducible exact (ZA ‹_› ‹_› ‹_›), PE.after h₁.1 ?_⟩
    have v₁ := v.kpS h₁.1
    refine .new Kf v.fsb v₁.badD (Az _) ?_
    simp only [DenT]
    exact ⟨_, vs, rfl, isTuple_push .., hlen, h₁.2.push _⟩
end
end Mine
end
section
open PySem PyProof.Rows PySem.SeqAt
namespace Mine
set_option tactic.hygienic false
set_option autoImplicit false
section
variable {c : Cx} {d : Nat} {ce : CE} {cap : Bool}
theorem SE.idx {l r : Expr} {a b : ME} (ok : c.Ok) (p : Pos) (ha : SE c d ce false l a) (hb : SE c d ce false r b) : SE c d ce cap (.Subscript l r p) (.idx a b) := fun A env σ bad s av rm v e => by
  replace e := i2 e
  obtain ⟨x, y, qa, qb, e⟩ := e
  refine Subscript_ (wpAny_mono (ha A env σ bad s x rm v qa) (fun u s₁ h₁ => ?_) fun _ _ q => q)
  refine wpAny_mono (hb A env σ bad s₁ y rm (v.kpS h₁.1) qb) (fun w s₂ h₂ => ?_) fun _ _ q => q
  have v₂ := (v.kpS h₁.1).kpS h₂.1
  obtain ⟨T, hT⟩ := idx_ty e
  have dn := h₁.2.1.kpS h₂.1 v.fsb
  refine subTail dn.1 hT (wpAny_mono (getItem_ok (v₂.at ok rm) e dn h₂.2.1) (fun z s₃ h₃ => ?_) fun _ _ q => q)
  exact ((PE.after (h₁.1.trans h₂.1) h₃).uncap cap)
theorem push_slice {s : Shared} {l u st : Value} : (s.heap.push { cls := .type "slice", data := .fields #[l, u, st] }).IsSliceOf s.heap.objs.size l u st := Heap.IsSliceOf.new ..
theorem SE.sliceTo {l r : Expr} {a b : ME} (ok : c.Ok) (p p' : Pos) (ha : SE c d ce false l a) (hb : SE c d ce false r b) : SE c d ce cap (.Subscript l (.Slice none (some r) none p') p) (.sliceTo a b) := fun A env σ bad s av rm v e => by
  replace e := i2 e
  obtain ⟨x, y, qa, qb, e⟩ := e
  refine Subscript_ (wpAny_mono (ha A env σ bad s x rm v qa) (fun u s₁ h₁ => ?_) fun _ _ q => q)
  refine wpAny_Slice (wpAny_pure ?_)
  refine wpAny_mono (hb A env σ bad s₁ y rm (v.kpS h₁.1) qb) (fun w s₂ h₂ => wpAny_pure ?_) fun _ _ q => q
  have v₂ := (v.kpS h₁.1).kpS h₂.1
  obtain ⟨T, hT⟩ := take_ty e
  have kp : KpS (Ac A) s₂ { s₂ with heap := s₂.heap.push { cls := .type "slice", data := .fields #[.none, w, .none] } } := Kf
  have v₃ := v₂.kpS kp
  have dn := (h₁.2.1.kpS h₂.1 v.fsb).kpS kp v.fsb
  refine subTail dn.1 hT (wpAny_mono (sliceTo_ok (cap := cap) (fr := Iz c.fresh (.sliceTo a b)) (v₃.at ok rm) e dn (h₂.2.1.kpS kp v.fsb) push_slice) (fun z s₃ h₃ => ?_) fun _ _ q => q)
  exact PE.after ((h₁.1.trans h₂.1).trans kp) h₃
theorem SE.sliceFrom {l r : Expr} {a b : ME} (ok : c.Ok) (p p' : Pos) (ha : SE c d ce false l a) (hb : SE c d ce false r b) : SE c d ce cap (.Subscript l (.Slice (some r) none none p') p) (.sliceFrom a b) := fun A env σ bad s av rm v e => by
  replace e := i2 e
  obtain ⟨x, y, qa, qb, e⟩ := e
  refine Subscript_ (wpAny_mono (ha A env σ bad s x rm v qa) (fun u s₁ h₁ => ?_) fun _ _ q => q)
  refine wpAny_Slice ?_
  refine wpAny_mono (hb A env σ bad s₁ y rm (v.kpS h₁.1) qb) (fun w s₂ h₂ => wpAny_pure (wpAny_pure ?_)) fun _ _ q => q
  have v₂ := (v.kpS h₁.1).kpS h₂.1
  obtain ⟨T, hT⟩ := drop_ty e
  have kp : KpS (Ac A) s₂ { s₂ with heap := s₂.heap.push { cls := .type "slice", data := .fields #[w, .none, .none] } } := Kf
  have v₃ := v₂.kpS kp
  have dn := (h₁.2.1.kpS h₂.1 v.fsb).kpS kp v.fsb
  refine subTail dn.1 hT (wpAny_mono (sliceFrom_ok (cap := cap) (fr := Iz c.fresh (.sliceFrom a b)) (v₃.at ok rm) e dn (h₂.2.1.kpS kp v.fsb) push_slice) (fun z s₃ h₃ => ?_) fun _ _ q => q)
  exact PE.after ((h₁.1.trans h₂.1).trans kp) h₃
theorem size_big {c : Cx} (ok : c.Ok) {h : Heap} (g : ∀ b o, c.hG.get? b = some o → h.get? b = some o) : 3 < h.objs.size := by
  obtain ⟨mg, bm, ob, n, _⟩ := ok.seer.main
  obtain ⟨o, _, _, e, _⟩ := n
  exact Heap.lt_size (g _ _ e)
theorem SE.dict0 (ok : c.Ok) (p : Pos) : SE c d ce cap (.Dict [] [] p) .dict0 := fun A env σ bad s av rm v e => by
  simp only [U8] at e; cases e
  refine wpAny_Dict_empty ?_
  refine .new Kf v.fsb v.badD (Az _) ?_
  simp only [DenT]
  refine ⟨_, [], rfl, Heap.DictOf.new _, Nat.zero_le _, rfl, ?_⟩
  have := size_big ok v.ground
  simp [sysModules]
  show s.heap.objs.size ≠ 1
  lia
theorem wpAny_release {M : Model} {A : Around} {vs : List Value} {keep : List Value} {Q : Unit → Shared → Prop} {E : Value → Shared → Prop} {s : Shared} (h : Q () s) : wpAny M A (release vs keep) Q E s := fun Γ p hΓ => by
  rw [Sem.wp_release]; exact h
theorem SE.chain {l r₁ r₂ : Expr} {a b e' : ME} {o₁ o₂ : COp} (ok : c.Ok) (p : Pos) (ha : SE c d ce false l a) (hb : SE c d ce false r₁ b) (he : SE c d ce false r₂ e') (hm : lastMarks [Gj o₁, Gj o₂] [r₁, r₂] = false)
    (hn₁ : ¬ (o₁ = .isNone ∨ o₁ = .isNotNone)) (hn₂ : ¬ (o₂ = .isNone ∨ o₂ = .isNotNone)) :
    SB c d ce (.Compare l [Gj o₁, Gj o₂] [r₁, r₂] p) (.chain o₁ o₂ a b e') := fun A env σ bad s bb rm v e => by
  unfold Bb at e
  simp only [Q9] at e
  cases qa : Ae c.G c.F a σ with
  | none => rw [qa] at e; cases e
  | some x =>
    cases qb : Ae c.G c.F b σ with
    | none => rw [qa, qb] at e; cases e
    | some y =>
      rw [qa, qb] at e
      dsimp only at e
      refine isTrue_chain (wpAny_mono (ha A env σ bad s x rm v qa) (fun u s₁ h₁ => ?_) fun _ _ q => q) hm
      show wpAny _ A (testChain p u [Gj o₁, Gj o₂] [eval r₁ env, eval r₂ env]) _ _ s₁
      refine wpAny_bind (wpAny_holding (wpAny_mono (hb A env σ bad s₁ y rm (v.kpS h₁.1) qb) (fun w s₂ h₂ => ?_) fun _ _ q => q))
      have v₂ := (v.kpS h₁.1).kpS h₂.1
      refine wpAny_bind (wpAny_standAt (wpAny_bind (wpAny_holding ?_)))
      cases qc : Ad o₁ x y with
      | none => rw [qc] at e; cases e
      | some t =>
        rw [qc] at e
        refine cmpop_ok (v₂.at ok rm) qc (h₁.2.1.kpS h₂.1 v.fsb) h₂.2.1 (fun q => absurd q hn₁) ?_
        refine wpAny_bind (wpAny_release ?_)
        refine wpAny_bind (wpAny_holding (wpAny_truthy_bool ?_))
        cases t with
        | false =>
          simp [Aa] at e; subst e
          exact wpAny_pure ⟨rfl, h₁.1.trans h₂.1⟩
        | true =>
          dsimp only at e
          rw [if_pos rfl]
          cases qe : Ae c.G c.F e' σ with
          | none => rw [qe] at e; cases e
          | some z =>
            rw [qe] at e
            dsimp only at e
            cases qd : Ad o₂ y z with
            | none => rw [qd] at e; cases e
            | some t₂ =>
              rw [qd] at e
              simp [Aa] at e; subst e
              refine wpAny_bind (wpAny_holding (wpAny_mono (he A env σ bad s₂ z rm v₂ qe) (fun w' s₃ h₃ => ?_) fun _ _ q => q))
              refine wpAny_bind (wpAny_standAt (wpAny_bind (wpAny_operating ?_)))
              refine cmpop_ok ((v₂.kpS h₃.1).at ok rm) qd (h₂.2.1.kpS h₃.1 v.fsb) h₃.2.1 (fun q => absurd q hn₂) ?_
              exact wpAny_holding (wpAny_truthy_bool ⟨rfl, (h₁.1.trans h₂.1).trans h₃.1⟩)
theorem SE.f1b {f : F1} {id : String} {x : Str} {e : Expr} {a : ME} (ok : c.Ok) (p p' : Pos) (hd : (x == ("__debug__" : Str)) = false) (hg : ce.glob x = some (.bi id)) (hf : fval f = .builtin id) (hs : Ai e = true) (ha : SE c d ce false e a) :
    SE c d ce cap (.Call (.Name x p') [e] [] p) (.f1 f a) := fun A env σ bad s av rm v q => by
  replace q := i1 q
  obtain ⟨z, qa, q⟩ := q
  · refine Call_ (Et ok v hg hd fun u m => ?_)
    simp only [Hy] at m; subst m
    refine PyProof.Rows.callWith_builtin1 (wpAny_items_cons (wpAny_mono (ha A env σ bad s z rm v qa) (fun u s₁ h₁ => wpAny_items_nil ?_) fun _ _ q => q) (Ao hs)) (Ao hs) rfl
    rw [← hf]
    exact wpAny_mono (f1_ok ((v.kpS h₁.1).at ok rm) q h₁.2.1) (fun z s₂ h₂ => PE.after h₁.1 h₂) fun _ _ q => q
theorem SE.f1t {f : F1} {id : String} {x : Str} {e : Expr} {a : ME} (ok : c.Ok) (p p' : Pos) (hd : (x == ("__debug__" : Str)) = false) (hg : ce.glob x = some (.ty id)) (hf : fval f = .type id) (hs : Ai e = true) (ha : SE c d ce false e a) :
    SE c d ce cap (.Call (.Name x p') [e] [] p) (.f1 f a) := fun A env σ bad s av rm v q => by
  replace q := i1 q
  obtain ⟨z, qa, q⟩ := q
  · refine Call_ (Et ok v hg hd fun u m => ?_)
    simp only [Hy] at m; subst m
    refine Pv.callWith_type1 (wpAny_items_cons (wpAny_mono (ha A env σ bad s z rm v qa) (fun u s₁ h₁ => wpAny_items_nil ?_) fun _ _ q => q) (Ao hs)) (Ao hs) rfl
    rw [← hf]
    exact wpAny_mono (f1_ok ((v.kpS h₁.1).at ok rm) q h₁.2.1) (fun z s₂ h₂ => PE.after h₁.1 h₂) fun _ _ q => q
theorem call_def {f : Nat} {fr : Bool} {x : Str} {e : Expr} {es : List Expr} {a : ME} {A : Around} {env : Env} {σ : St} {bad : Addr → Prop} {s : Shared} {avs : List AV} {r : Res} (ok : c.Ok) (hF : ∀ f args r, c.F f args = some r → FnOk c d f args r) (p p' : Pos)
    (hd : (x == ("__debug__" : Str)) = false) (hg : ce.glob x = some (.fn f fr)) (hs : Ai e = true) (ha : SL c d ce (e :: es) a) (rm : Room A d) (v : EVis c A ce env σ bad s.heap) (qa : Ae c.G c.F a σ = some (.tup avs)) (qf : c.F f avs = some r) :
    wpAny (model c.prog c.w) A (eval (.Call (.Name x p') (e :: es) [] p) env) (ResPost c A bad (c.fresh f) s r) (fun ex s' => ∃ s₁, KpS (Ac A) s s₁ ∧ ResExc c A s₁ r ex s') s := by
  refine Call_ (Et ok v hg hd fun u m => ?_)
  obtain ⟨rfl, o, fd, ho, hfd⟩ := m
  refine callWith_def (o := o) (fd := fd) hfd (wpAny_mono (ha A env σ bad s p avs rm v qa) (fun vs s₁ h₁ => ?_) fun _ _ q => q.elim) (Ao hs)
  have v₁ := v.kpS h₁.1
  refine ⟨v₁.ground _ _ ho, ?_⟩
  refine wpAny_mono (hF f avs r qf A s₁ vs bad rm v₁.fr v₁.ground v₁.badG v₁.badD v₁.fsb h₁.2) (fun z s₂ h₂ => ?_) fun ex s₂ h₂ => ⟨s₁, h₁.1, h₂⟩
  obtain ⟨y, rfl, h₂⟩ := h₂
  exact ⟨y, rfl, PE.after h₁.1 h₂⟩
theorem SE.call {f : Nat} {fr : Bool} {x : Str} {e : Expr} {es : List Expr} {a : ME} (ok : c.Ok) (hF : ∀ f args r, c.F f args = some r → FnOk c d f args r) (p p' : Pos) (hd : (x == ("__debug__" : Str)) = false) (hg : ce.glob x = some (.fn f fr)) (hs : Ai e = true)
    (ha : SL c d ce (e :: es) a) : SE c d ce cap (.Call (.Name x p') (e :: es) [] p) (.call f a) := fun A env σ bad s av rm v q => by
  obtain ⟨avs, qa, q⟩ := iT q
  obtain ⟨y, qf, q⟩ := iV q
  obtain rfl := Option.some.inj q
  · · refine wpAny_mono (call_def ok hF p p' hd hg hs ha rm v qa qf) (fun z s₁ h₁ => ?_) fun ex s' h => ?_
      · obtain ⟨y', e, h₁⟩ := h₁
        cases e
        exact h₁.uncap cap
      · obtain ⟨s₁, _, e, _⟩ := h; cases e
theorem typeName_is {x : AV} {v : Value} {s : Shared} {bad : Addr → Prop} {T : String} (d : DenT c s.heap bad x v) (h : Hd x = some T) : s.TypeIs v T := by
  cases x <;> simp only [Hd] at h <;> cases h <;> simp only [DenT] at d
  · subst d; rfl
  · subst d; rfl
  · obtain ⟨t, rfl⟩ := d; rfl
  · obtain ⟨_, t, rfl⟩ := d; rfl
  · obtain ⟨a, vs, rfl, hl, _⟩ := d; exact hl.typeIs
  · obtain ⟨a, vs, rfl, hl, _⟩ := d; exact hl.typeIs
  · obtain ⟨a, vs, rfl, hl, _⟩ := d; exact hl.typeIs
  · obtain ⟨a, kvs, rfl, hl, _⟩ := d; exact hl.typeIs
theorem typeName_nb {x : AV} {T : String} (h : Hd x = some T) : (Value.type T == Value.type "builtin_function_or_method") = false := by
  cases x <;> simp only [Hd] at h <;> cases h <;> decide
theorem type_beq (a b : String) : (Value.type a == Value.type b) = (a == b) := by
  by_cases h : a = b
  · subst h; simp
  · rw [beq_eq_false_iff_ne.mpr h, beq_eq_false_iff_ne.mpr (fun e => h (Value.type.inj e))]
theorem isType_val {x y : Str} {e : Expr} {a : ME} {t : String} (ok : c.Ok) (p p₁ p₂ p₃ : Pos) (hd : (x == ("__debug__" : Str)) = false) (hd' : (y == ("__debug__" : Str)) = false) (hg : ce.glob x = some (.ty "type")) (hg' : ce.glob y = some (.ty t)) (hs : Ai e = true)
    (ha : SE c d ce false e a) {A : Around} {env : Env} {σ : St} {bad : Addr → Prop} {s : Shared} {z : AV} {T : String} (rm : Room A d) (v : EVis c A ce env σ bad s.heap) (qa : Ae c.G c.F a σ = some z) (qT : Hd z = some T) {Q : Value → Shared → Prop}
    (h : ∀ s', KpS (Ac A) s s' → Q (.bool (T == t)) s') :
    wpAny (model c.prog c.w) A (eval (.Call (.Name x p₁) [e] [] p₂) env) (fun u s₁ => wpAny (model c.prog c.w) A (eval (.Name y p₃) env) (fun w s₂ => wpAny (model c.prog c.w) A (compareOp .Is u w) Q (fun _ _ => False) s₂) (fun _ _ => False) s₁) (fun _ _ => False) s := by
  refine Call_ (Et ok v hg hd fun u m => ?_)
  simp only [Hy] at m; subst m
  refine Pv.callWith_type1 (wpAny_items_cons (wpAny_mono (ha A env σ bad s z rm v qa) (fun u s₁ h₁ => wpAny_items_nil ?_) fun _ _ q => q) (Ao hs)) (Ao hs) rfl
  refine call_type_of (typeName_is h₁.2.1.1 qT) (typeName_nb qT) ?_
  refine Et ok (v.kpS h₁.1) hg' hd' fun u' m => ?_
  simp only [Hy] at m; subst m
  refine wpAny_is_plain rfl ?_
  rw [type_beq]
  exact h _ h₁.1
end
end Mine
end
section
open PySem PyProof.Rows PySem.SeqAt
namespace Mine
set_option tactic.hygienic false
set_option autoImplicit false
section
variable {c : Cx} {d : Nat} {ce : CE} {cap : Bool}
theorem SE.isType {x y : Str} {e : Expr} {a : ME} {t : String} (ok : c.Ok) (p p₁ p₂ p₃ : Pos) (hd : (x == ("__debug__" : Str)) = false) (hd' : (y == ("__debug__" : Str)) = false) (hg : ce.glob x = some (.ty "type")) (hg' : ce.glob y = some (.ty t)) (hs : Ai e = true)
    (ha : SE c d ce false e a) : SE c d ce cap (.Compare (.Call (.Name x p₁) [e] [] p₂) [.Is] [.Name y p₃] p) (.isType t a) := fun A env σ bad s av rm v q => by
  obtain ⟨z, qa, q⟩ := i1 q
  obtain ⟨T, qT, rfl⟩ := mS q
  · · exact wpAny_Compare1 (isType_val ok p p₁ p₂ p₃ hd hd' hg hg' hs ha rm v qa qT fun s' k => .bool k) rfl
theorem SB.isType {x y : Str} {e : Expr} {a : ME} {t : String} (ok : c.Ok) (p p₁ p₂ p₃ : Pos) (hd : (x == ("__debug__" : Str)) = false) (hd' : (y == ("__debug__" : Str)) = false) (hg : ce.glob x = some (.ty "type")) (hg' : ce.glob y = some (.ty t)) (hs : Ai e = true)
    (ha : SE c d ce false e a) : SB c d ce (.Compare (.Call (.Name x p₁) [e] [] p₂) [.Is] [.Name y p₃] p) (.isType t a) := fun A env σ bad s b rm v q => by
  obtain ⟨w, q, et⟩ := iD q
  obtain ⟨z, qa, q⟩ := i1 q
  obtain ⟨T, qT, rfl⟩ := mS q
  obtain rfl := Option.some.inj et
  exact wpAny_isTrue_Compare1 (isType_val ok p p₁ p₂ p₃ hd hd' hg hg' hs ha rm v qa qT fun s' k => wpAny_truthy_bool ⟨rfl, k⟩) rfl
theorem base_of {o : Expr} {name : Str} {env : Env} (h : Jq o = false) : attributeBase o name env (eval o env) = eval o env := by
  cases o <;> first | rfl | (cases h; done)
theorem joinop_str {x y z : AV} (e : Hu x y = some z) : ∃ l, x = .str l := by
  cases x <;> first | exact ⟨_, rfl⟩ | (simp [Hu] at e; done)
theorem SE.join {o a : Expr} {x y : ME} (ok : c.Ok) (p apos : Pos) (hl : (apos.endLine == p.line) = true) (hb : Jq o = false) (hs : Ai a = true) (ho : SE c d ce false o x) (ha : SE c d ce false a y) :
    SE c d ce cap (.Call (.Attribute o ("join" : Str) apos) [a] [] p) (.join x y) := fun A env σ bad s av rm v e => by
  replace e := i2 e
  obtain ⟨X, Y, qa, qb, e⟩ := e
  obtain ⟨l, rfl⟩ := joinop_str e
  refine wpAny_Call_method (T := "str") (id := "str.join") (base_of hb) (by rw [Ao hs]; rfl) hl F.plainAttrs_str F.slot_str_join F.type_str_join (wpAny_mono (ho A env σ bad s _ rm v qa) (fun u s₁ h₁ => ?_) fun _ _ q => q)
  have dn := h₁.2.1
  have dn' := dn.1
  simp only [DenT] at dn'
  obtain ⟨hx, t, rfl⟩ := dn'
  refine ⟨typeIs_str _ _ _, (by intro _ e; cases e), ?_⟩
  rw [Ao hs]
  refine Calls.callWith_builtin rfl (Calls.evalArgs_plain (Calls.spliced_cons (wpAny_mono (ha A env σ bad s₁ _ rm (v.kpS h₁.1) qb) (fun w s₂ h₂ => Calls.spliced_nil ?_) fun _ _ q => q)))
  have v₂ := (v.kpS h₁.1).kpS h₂.1
  exact wpAny_mono (join_ok (v₂.at ok rm) e (dn.kpS h₂.1 v.fsb) h₂.2.1) (fun z s₃ h₃ => PE.after (h₁.1.trans h₂.1) h₃) fun _ _ q => q
set_option tactic.hygienic true in
theorem SE.get {o a b : Expr} {x y z : ME} (ok : c.Ok) (p apos : Pos) (hl : (apos.endLine == p.line) = true) (hb : Jq o = false) (hs : Ai a = true) (hs' : Ai b = true) (ho : SE c d ce false o x) (ha : SE c d ce false a y) (hb' : SE c d ce false b z) :
    SE c d ce cap (.Call (.Attribute o ("get" : Str) apos) [a, b] [] p) (.get x y z) := fun A env σ bad s av rm v e => by
  replace e := i3 e
  obtain ⟨X, Y, Z, qa, qb, qc, e⟩ := e
  cases X <;> first | exact (nS e).elim | (cases Y <;> first | exact (nS e).elim | (cases Z <;> first | exact (nS e).elim | skip))
  rename_i es k n
  obtain rfl := Option.some.inj e
  refine wpAny_Call_method (T := "dict") (id := "dict.get") (base_of hb) (by rw [Ao hs, Ao hs']; rfl) hl F.plainAttrs_dict F.slot_dict_get F.type_dict_get (wpAny_mono (ho A env σ bad s _ rm v qa) (fun u s₁ h₁ => ?_) fun _ _ q => q)
  have dn := h₁.2.1
  have dn' := dn.1
  simp only [DenT] at dn'
  obtain ⟨ad, kvs, rfl, hd, _, hrel, h0⟩ := dn'
  refine ⟨hd.typeIs, hd.mapOf.noDict, ?_⟩
  rw [Ao hs, Ao hs']
  refine wpAny_dict_get2 (knd := intKind c.prog c.w) h0 (wpAny_mono (ha A env σ bad s₁ _ rm (v.kpS h₁.1) qb) (fun w s₂ h₂ => ?_) fun _ _ q => q)
  refine wpAny_mono (hb' A env σ bad s₂ _ rm ((v.kpS h₁.1).kpS h₂.1) qc) (fun w' s₃ h₃ => ?_) fun _ _ q => q
  have dk := h₂.2.1.1
  have dz := h₃.2.1.1
  have dd := ((dn.kpS h₂.1 v.fsb).kpS h₃.1 v.fsb).1
  simp only [DenT] at dk dz dd
  obtain ⟨t, rfl⟩ := dk
  obtain ⟨t', rfl⟩ := dz
  obtain ⟨ad', kvs', e', hd', _, hrel', _⟩ := dd
  cases e'
  refine ⟨k, _, Kn c k t, hd'.mapOf, ?_⟩
  have kk : KpS (Ac A) s { s₃ with toks := s₃.toks + 1 } := ((h₁.1.trans h₂.1).trans h₃.1).trans (.tok ..)
  rcases Jg hrel' k with ⟨n', t'', e1, e2⟩ | ⟨e1, e2⟩
  · rw [e1, e2]; exact .int kk
  · rw [e1, e2]; exact .int kk
noncomputable def SI (c : Cx) (d : Nat) (ce : CE) (cap : Bool) (e : Expr) (m : ME) : Prop :=
  ∀ (A : Around) (env : Env) (σ : St) (bad : Addr → Prop) (s : Shared) (src : AV) (ys : List AV) (target : Expr), Room A d → EVis c A ce env σ bad s.heap → Ae c.G c.F m σ = some src → Ff src = some ys →
    wpAny (model c.prog c.w) A (eval e env) (fun x s₁ => wpAny (model c.prog c.w) A (pyIter x) (fun it s₂ => ∃ s₀, KpS (Ac A) s s₀ ∧ Src c A target bad (Ac A) cap s₀ ys it s₂) (fun _ _ => False) s₁) (fun _ _ => False) s
theorem SI.of {e : Expr} {m : ME} (ok : c.Ok) (h : SE c d ce cap e m) : SI c d ce cap e m := fun A env σ bad s src ys target rm v q hi => by
  refine wpAny_mono (h A env σ bad s src rm v q) (fun x s₁ h₁ => ?_) fun _ _ q => q
  exact wpAny_mono (src_ok ((v.kpS h₁.1).at ok rm) hi h₁.2.1 h₁.2.2.1) (fun it s₂ h₂ => ⟨s₁, h₁.1, h₂⟩) fun _ _ q => q
theorem fit {k : Int} (h : -2097153 ≤ k) (l : k ≤ 2097153) : Builtin.Range.rangeFitsLong k = true := by
  unfold Builtin.Range.rangeFitsLong
  rw [decide_eq_true (Int.le_trans (by decide) h), decide_eq_true (Int.lt_of_le_of_lt l (by decide))]; rfl
theorem small_down {x y : Int} (h : -(LIM : Int) ≤ x ∧ x ≤ LIM ∧ -(LIM : Int) ≤ y ∧ y ≤ LIM) : Builtin.Range.small x y (-1) = true := by
  obtain ⟨h1, h2, h3, h4⟩ := h
  have b1 : (-2097153 : Int) ≤ -(LIM : Int) := by decide
  have b2 : (LIM : Int) ≤ 2097153 := by decide
  have e : -2097153 ≤ Builtin.Range.rangeSize x y (-1) ∧ Builtin.Range.rangeSize x y (-1) ≤ 2097153 := by
    show -2097153 ≤ (if x > y then (x - y - 1) / 1 + 1 else 0) ∧ (if x > y then (x - y - 1) / 1 + 1 else 0) ≤ 2097153
    rw [Int.ediv_one, Int.sub_add_cancel]
    by_cases q : x > y
    · rw [if_pos q]
      exact ⟨Int.le_trans (by decide) (Int.le_of_lt (Int.sub_pos_of_lt q)), Int.le_trans (Int.sub_le_sub h2 h3) (by decide)⟩
    · rw [if_neg q]; decide
  unfold Builtin.Range.small
  rw [fit (Int.le_trans b1 h1) (Int.le_trans h2 b2), fit (Int.le_trans b1 h3) (Int.le_trans h4 b2), fit e.1 e.2, show Builtin.Range.rangeFitsLong (-1) = true from rfl, if_neg (by decide)]
  have e2 : y + (-1 + 1) = y := Int.add_zero y
  rw [e2, fit (Int.le_trans b1 h3) (Int.le_trans h4 b2), Bool.or_true]; rfl
theorem small_pm {x y z : Int} (hz : z = 1 ∨ z = -1) (h : -(LIM : Int) ≤ x ∧ x ≤ LIM ∧ -(LIM : Int) ≤ y ∧ y ≤ LIM) : Builtin.Range.small x y z = true := by
  have b1 : -(2 ^ 62) ≤ -(LIM : Int) := by decide
  have b2 : (LIM : Int) < 2 ^ 62 := by decide
  rcases hz with rfl | rfl
  · exact small_one (Int.le_trans b1 h.1) (Int.lt_of_le_of_lt h.2.1 b2) (Int.le_trans b1 h.2.2.1) (Int.lt_of_le_of_lt h.2.2.2 b2)
  · exact small_down h
theorem range_src {x y z : Int} {t u w : Tok} {A : Around} {env : Env} {σ : St} {bad : Addr → Prop} {s s₀ : Shared} {target : Expr} (ok : c.Ok) (rm : Room A d) (v : EVis c A ce env σ bad s.heap) (k : KpS (Ac A) s₀ s)
    (hz : z = 1 ∨ z = -1) (hb : -(LIM : Int) ≤ x ∧ x ≤ LIM ∧ -(LIM : Int) ≤ y ∧ y ≤ LIM) (tk : Nat) :
    wpAny (model c.prog c.w) A (pyIter (.ref s.heap.objs.size)) (fun it s₂ => ∃ s₁, KpS (Ac A) s₀ s₁ ∧ Src c A target bad (Ac A) cap s₁ ((Ex x y z).map .int) it s₂) (fun _ _ => False)
      { s with heap := s.heap.push { cls := .type "range", data := .fields #[.int x t, .int y u, .int z w] }, toks := tk } := by
  have k' : KpS (Ac A) s { s with heap := s.heap.push { cls := .type "range", data := .fields #[.int x t, .int y u, .int z w] }, toks := tk } := .mk _ _ _ (Kp.push _ _ _)
  have v' := v.kpS k'
  exact wpAny_mono (src_range (v'.at ok rm) (IsRange.new _ _ _ _ _ _ _) (small_pm hz hb)) (fun it s₂ h₂ => ⟨_, k.trans k', h₂⟩) fun _ _ q => q
theorem Jm {x y z : Int} {src : AV} {ys : List AV} (e : (if (z = 1 ∨ z = -1) ∧ -(LIM : Int) ≤ x ∧ x ≤ LIM ∧ -(LIM : Int) ≤ y ∧ y ≤ LIM then some (AV.ilist (Ex x y z)) else none) = some src) (hi : Ff src = some ys) :
    (z = 1 ∨ z = -1) ∧ (-(LIM : Int) ≤ x ∧ x ≤ LIM ∧ -(LIM : Int) ≤ y ∧ y ≤ LIM) ∧ ys = (Ex x y z).map .int := by
  obtain ⟨h, rfl⟩ := iS e
  exact ⟨h.1, h.2, (Option.some.inj hi).symm⟩
theorem SI.range1 {x : Str} {a : Expr} {m : ME} (ok : c.Ok) (p p' : Pos) (hd : (x == ("__debug__" : Str)) = false) (hg : ce.glob x = some (.ty "range")) (hs : Ai a = true) (ha : SE c d ce false a m) :
    SI c d ce cap (.Call (.Name x p') [a] [] p) (.range (.lit (.int 0)) m (.lit (.int 1))) := fun A env σ bad s src ys target rm v q hi => by
  obtain ⟨X, Y, Z, q1, q2, q3, q⟩ := iR q
  · cases q1; cases q3
    obtain ⟨hz, hb, rfl⟩ := Jm q hi
    refine Call_ (Et ok v hg hd fun u mm => ?_)
    simp only [Hy] at mm; subst mm
    refine Pv.callWith_type1 (wpAny_items_cons (wpAny_mono (ha A env σ bad s _ rm v q2) (fun u s₁ h₁ => wpAny_items_nil ?_) fun _ _ q => q) (Ao hs)) (Ao hs) rfl
    have dn := h₁.2.1.1
    simp only [DenT] at dn
    obtain ⟨t, rfl⟩ := dn
    exact call_range_1 (range_src ok rm (v.kpS h₁.1) h₁.1 hz hb _)
theorem SI.range2 {x : Str} {a b : Expr} {m n : ME} (ok : c.Ok) (p p' : Pos) (hd : (x == ("__debug__" : Str)) = false) (hg : ce.glob x = some (.ty "range")) (hs : Ai a = true) (hs' : Ai b = true) (ha : SE c d ce false a m) (hb : SE c d ce false b n) :
    SI c d ce cap (.Call (.Name x p') [a, b] [] p) (.range m n (.lit (.int 1))) := fun A env σ bad s src ys target rm v q hi => by
  obtain ⟨X, Y, Z, q1, q2, q3, q⟩ := iR q
  · cases q3
    obtain ⟨hz, hb', rfl⟩ := Jm q hi
    refine Call_ (Et ok v hg hd fun u mm => ?_)
    simp only [Hy] at mm; subst mm
    refine Pv.callWith_type1 (wpAny_items_cons (wpAny_mono (ha A env σ bad s _ rm v q1) (fun u s₁ h₁ => wpAny_items_cons (wpAny_mono (hb A env σ bad s₁ _ rm (v.kpS h₁.1) q2) (fun u' s₂ h₂ => wpAny_items_nil ?_) fun _ _ q => q) (Ao hs')) fun _ _ q => q) (Ao hs)) (Ao hs) (by rw [Ao hs']; rfl)
    have dn := h₁.2.1.1
    have dn' := h₂.2.1.1
    simp only [DenT] at dn dn'
    obtain ⟨t, rfl⟩ := dn
    obtain ⟨t', rfl⟩ := dn'
    exact call_range_2 (range_src ok rm ((v.kpS h₁.1).kpS h₂.1) (h₁.1.trans h₂.1) hz hb' _)
theorem SI.range3 {x : Str} {a b g : Expr} {m n k : ME} (ok : c.Ok) (p p' : Pos) (hd : (x == ("__debug__" : Str)) = false) (hg : ce.glob x = some (.ty "range")) (hs : Ai a = true) (hs' : Ai b = true) (hs'' : Ai g = true) (ha : SE c d ce false a m) (hb : SE c d ce false b n) (hgg : SE c d ce false g k) :
    SI c d ce cap (.Call (.Name x p') [a, b, g] [] p) (.range m n k) := fun A env σ bad s src ys target rm v q hi => by
  obtain ⟨X, Y, Z, q1, q2, q3, q⟩ := iR q
  · obtain ⟨hz, hb', rfl⟩ := Jm q hi
    refine Call_ (Et ok v hg hd fun u mm => ?_)
    simp only [Hy] at mm; subst mm
    refine Pv.callWith_type1 (wpAny_items_cons (wpAny_mono (ha A env σ bad s _ rm v q1) (fun u s₁ h₁ => wpAny_items_cons (wpAny_mono (hb A env σ bad s₁ _ rm (v.kpS h₁.1) q2) (fun u' s₂ h₂ => wpAny_items_cons (wpAny_mono (hgg A env σ bad s₂ _ rm ((v.kpS h₁.1).kpS h₂.1) q3) (fun u'' s₃ h₃ => wpAny_items_nil ?_) fun _ _ q => q) (Ao hs'')) fun _ _ q => q) (Ao hs')) fun _ _ q => q) (Ao hs)) (Ao hs) (by rw [Ao hs', Ao hs'']; rfl)
    have dn := h₁.2.1.1
    have dn' := h₂.2.1.1
    have dn'' := h₃.2.1.1
    simp only [DenT] at dn dn' dn''
    obtain ⟨t, rfl⟩ := dn
    obtain ⟨t', rfl⟩ := dn'
    obtain ⟨t'', rfl⟩ := dn''
    have v₃ := ((v.kpS h₁.1).kpS h₂.1).kpS h₃.1
    refine call_range_3 (by lia) ?_ (.inr (v₃.at ok rm).pylong)
    exact range_src ok rm v₃ ((h₁.1.trans h₂.1).trans h₃.1) hz hb' _
end
end Mine
end
section
open PySem PyProof.Rows PySem.SeqAt
namespace Mine
set_option tactic.hygienic false
set_option autoImplicit false
noncomputable def clOf (env : Env) : List (Str × NameKind) → List (Str × Addr) → List (Str × Addr)
  | [], cs => cs
  | (n, k) :: r, cs => clOf env r (if k == .free then (n, (env.cells.lookup n).getD 0) :: cs else cs)
theorem closure_is {scope : Scope} {env : Env} (h : ∀ p ∈ scope.names, p.2 = .free → ∃ a, env.cells.lookup p.1 = some a) : closureFor scope env = pure (clOf env scope.names []) := by
  unfold closureFor
  have key : ∀ (l : List (Str × NameKind)) (cs : List (Str × Addr)), (∀ p ∈ l, p.2 = .free → ∃ a, env.cells.lookup p.1 = some a) →
      (forIn l cs (fun (x : Str × NameKind) (r : List (Str × Addr)) => (if (x.2 == NameKind.free) = true then (do let y ← cellOf env x.1; pure (ForInStep.yield ((x.1, y) :: r))) else (pure (ForInStep.yield r) : Sem (ForInStep (List (Str × Addr)))))) : Sem _) = pure (clOf env l cs) := by
    intro l
    induction l with
    | nil => intro cs _; rfl
    | cons p r ih =>
      intro cs hp
      obtain ⟨n, k⟩ := p
      rw [List.forIn_cons]
      cases hk : (k == NameKind.free) with
      | true =>
        obtain ⟨a, ha⟩ := hp (n, k) List.mem_cons_self (by simpa using hk)
        have e : cellOf env n = pure a := by unfold cellOf; simp only at ha; rw [ha]
        simp only [hk, if_true, e, pure_bind, clOf, ha, Option.getD_some]
        exact ih _ fun q hq => hp q (List.mem_cons_of_mem _ hq)
      | false =>
        simp only [hk, Bool.false_eq_true, if_false, pure_bind, clOf]
        exact ih _ fun q hq => hp q (List.mem_cons_of_mem _ hq)
  have := key scope.names [] h
  simp only [bind_pure] at this ⊢
  exact this
theorem clOf_good {env : Env} : ∀ (l : List (Str × NameKind)) (cs : List (Str × Addr)), (∀ p ∈ l, p.2 = .free → ∃ a, env.cells.lookup p.1 = some a) → (∀ q ∈ cs, env.cells.lookup q.1 = some q.2) →
    (∀ q ∈ clOf env l cs, env.cells.lookup q.1 = some q.2) ∧ (∀ q ∈ cs, q ∈ clOf env l cs) ∧ ∀ p ∈ l, p.2 = .free → ∃ a, (p.1, a) ∈ clOf env l cs
  | [], cs, _, hc => ⟨hc, fun _ h => h, fun _ h => by cases h⟩
  | (n, k) :: r, cs, hl, hc => by
    simp only [clOf]
    cases hk : (k == NameKind.free) with
    | true =>
      obtain ⟨a, ha⟩ := hl (n, k) List.mem_cons_self (by simpa using hk)
      simp only at ha
      have ih := clOf_good r ((n, a) :: cs) (fun q hq => hl q (List.mem_cons_of_mem _ hq)) (by
        intro q hq
        rcases List.mem_cons.mp hq with rfl | hq
        · exact ha
        · exact hc q hq)
      simp only [if_true, ha, Option.getD_some]
      refine ⟨ih.1, fun q hq => ih.2.1 q (List.mem_cons_of_mem _ hq), fun p hp hf => ?_⟩
      rcases List.mem_cons.mp hp with rfl | hp
      · exact ⟨a, ih.2.1 _ List.mem_cons_self⟩
      · exact ih.2.2 p hp hf
    | false =>
      have ih := clOf_good r cs (fun q hq => hl q (List.mem_cons_of_mem _ hq)) hc
      simp only [Bool.false_eq_true, if_false]
      refine ⟨ih.1, ih.2.1, fun p hp hf => ?_⟩
      rcases List.mem_cons.mp hp with rfl | hp
      · simp only at hf; subst hf; cases hk
      · exact ih.2.2 p hp hf
set_option tactic.hygienic true in
theorem Bk {β : Type} : ∀ {l : List (Str × β)} {x : Str} {b : β}, l.lookup x = some b → (x, b) ∈ l
  | [], x, b, h => by simp at h
  | (k, v) :: r, x, b, h => by
    rw [List.lookup_cons] at h
    split at h
    · rename_i q; cases h; have : x = k := by simpa using q
      subst this; exact List.mem_cons_self
    · exact List.mem_cons_of_mem _ (Bk h)
set_option tactic.hygienic true in
theorem Ih {β : Type} : ∀ {l : List (Str × β)} {x : Str} {b : β}, (x, b) ∈ l → ∃ b', l.lookup x = some b'
  | [], x, b, h => by cases h
  | (k, v) :: r, x, b, h => by
    rw [List.lookup_cons]
    split
    · exact ⟨_, rfl⟩
    · rename_i q
      rcases List.mem_cons.mp h with h | h
      · cases h; simp at q
      · exact Ih h
theorem clOf_lookup {env : Env} {names : List (Str × NameKind)} {x : Str} (hl : ∀ p ∈ names, p.2 = .free → ∃ a, env.cells.lookup p.1 = some a) (h : names.lookup x = some .free) : (clOf env names []).lookup x = env.cells.lookup x := by
  obtain ⟨h1, _, h3⟩ := clOf_good names [] hl (by simp)
  obtain ⟨a, ha⟩ := h3 _ (Bk h) rfl
  obtain ⟨b, hb⟩ := Ih ha
  rw [hb, ← h1 _ (Bk hb)]
theorem Jp {env : Env} {x : Str} : ∀ (names : List (Str × NameKind)),
    (names.map fun (n, k) => if (k == NameKind.free && env.scope.kind == .function && env.kindOf n == some .cell) then (n, NameKind.cell) else (n, k)).lookup x = (names.lookup x).map fun k => if (k == NameKind.free && env.scope.kind == .function && env.kindOf x == some .cell) then NameKind.cell else k
  | [] => rfl
  | (n, k) :: r => by
    have ih := @Jp env x r
    show List.lookup x ((if (k == NameKind.free && env.scope.kind == .function && env.kindOf n == some .cell) = true then (n, NameKind.cell) else (n, k)) :: _) = _
    cases hx : x == n with
    | true =>
      have : x = n := by simpa using hx
      subst this
      by_cases hc : (k == NameKind.free && env.scope.kind == .function && env.kindOf x == some .cell) = true
      · rw [if_pos hc]; simp only [List.lookup_cons, beq_self_eq_true, Option.map_some]; rw [if_pos hc]
      · rw [if_neg hc]; simp only [List.lookup_cons, beq_self_eq_true, Option.map_some]; rw [if_neg hc]
    | false =>
      by_cases hc : (k == NameKind.free && env.scope.kind == .function && env.kindOf n == some .cell) = true
      · rw [if_pos hc]; simp only [List.lookup_cons, hx]; exact ih
      · rw [if_neg hc]; simp only [List.lookup_cons, hx]; exact ih
noncomputable def Hw (M : Model) (A : Around) (env : Env) (E : Value → Shared → Prop) : List Str → List Value → (Shared → Prop) → Shared → Prop
  | x :: xs, v :: vs, Q, s => wpAny M A (storeName env x v) (fun _ s' => Hw M A env E xs vs Q s') E s
  | _, _, Q, s => Q s
theorem It {env : Env} : ∀ {es : List Expr} {xs : List Str}, mapO nameOf es = some xs → (assignEach es env).length = xs.length ∧ (assignEach es env).findIdx? (·.1) = none
  | [], xs, h => by obtain rfl := Option.some.inj h; exact ⟨rfl, rfl⟩
  | e :: r, xs, h => by
    obtain ⟨y, ys, h1, h2, rfl⟩ := mo_c h
    cases e <;> simp only [nameOf] at h1 <;> first | (cases h1; done) | skip
    have ih := @It env r ys h2
    exact ⟨congrArg (· + 1) ih.1, by show List.findIdx? _ ((false, _) :: assignEach r env) = none; rw [List.findIdx?_cons, ih.2]; rfl⟩
theorem assign_order {M : Model} {A : Around} {env : Env} {E : Value → Shared → Prop} : ∀ {es : List Expr} {xs : List Str} {vs : List Value} {Q : Shared → Prop} {s : Shared}, mapO nameOf es = some xs → Hw M A env E xs vs Q s →
    wpAny M A (assignInOrder ((assignEach es env).map (·.2)) vs) (fun _ s' => Q s') E s
  | [], xs, vs, Q, s, h, q => by
    obtain rfl := Option.some.inj h
    cases vs <;> exact wpAny_pure q
  | e :: r, xs, vs, Q, s, h, q => by
    obtain ⟨y, ys, h1, h2, rfl⟩ := mo_c h
    cases e <;> simp only [nameOf] at h1 <;> first | (cases h1; done) | skip
    cases h1
    cases vs with
    | nil => exact wpAny_pure q
    | cons v vs =>
      show wpAny M A (assignInOrder (assign _ env :: (assignEach r env).map (·.2)) (v :: vs)) _ E s
      exact wpAny_bind (wpAny_holding (wpAny_assign_Name (wpAny_mono q (fun _ s' h' => assign_order h2 h') fun _ _ e => e)))
theorem Jo {α β : Type} {f : α → Option β} : ∀ {l : List α} {r : List β}, mapO f l = some r → r.length = l.length
  | [], r, h => by obtain rfl := Option.some.inj h; rfl
  | a :: l, r, h => by
    obtain ⟨_, _, _, h2, rfl⟩ := mo_c h
    simp [Jo h2]
set_option tactic.hygienic true in
theorem tgt_ok {c : Cx} {A : Around} {h : Heap} {bad : Addr → Prop} {target : Expr} {xs : List Str} {y : AV} {v : Value} {vs : List AV} (ht : Bf target = some xs) (hb : Gf xs.length y = some vs) (hd : DenT c h bad y v) (hn : isName target = true → ∀ a, v = .ref a → ¬ bad a) (hh : A.handled = none) :
    ∃ ws, DenL c h bad vs ws ∧ ws.length = xs.length ∧ ∀ (env : Env) (E : Value → Shared → Prop) (s : Shared) (Q : Shared → Prop), s.heap = h → (∀ h', (∀ b o, h.get? b = some o → h'.get? b = some o) → Hw (model c.prog c.w) A env E xs ws Q { s with heap := h' }) →
      wpAny (model c.prog c.w) A (assign target env v) (fun _ s' => Q s') E s := by
  cases target <;> simp only [Bf] at ht <;> first | (cases ht; done) | skip
  · cases ht
    simp only [Gf, List.length_cons, List.length_nil, if_true] at hb
    cases hb
    refine ⟨[v], by simp only [DenL]; exact ⟨v, [], rfl, ⟨hd, hn rfl⟩, rfl⟩, rfl, fun env E s Q e q => ?_⟩
    have := q h fun _ _ e => e
    subst e
    exact wpAny_assign_Name this
  · rename_i es k p
    split at ht
    · cases ht
    · rename_i hlen
      have hl := Jo ht
      unfold Gf at hb
      rw [if_neg (by lia)] at hb
      split at hb
      · rename_i zs
        split at hb <;> cases hb
        rename_i hz
        simp only [DenT] at hd
        obtain ⟨t, ws, rfl, htup, hs, hd⟩ := hd
        refine ⟨ws, hd, by rw [hd.length, hz], fun env E s Q e q => ?_⟩
        subst e
        obtain ⟨h1, h2⟩ := @It env _ _ ht
        refine wpAny_assign_Tuple hh htup (by rw [h1, List.size_toArray, hd.length, hz]) h2 fun h' hx => ?_
        refine assign_order ht ?_
        refine q h' fun b o e => hx b o (Nat.ne_of_lt (Heap.lt_size e)) e
      · cases hb
noncomputable def Jh (m : Str → Option Value) : List Str → List Value → Str → Option Value
  | x :: xs, v :: vs => Jh (fun y => if y = x then some v else m y) xs vs
  | _, _ => m
theorem updAll_other : ∀ {xs : List Str} {vs : List Value} {m : Str → Option Value} {y : Str}, y ∉ xs → Jh m xs vs y = m y
  | [], vs, m, y, _ => rfl
  | x :: xs, [], m, y, _ => rfl
  | x :: xs, v :: vs, m, y, h => by
    show Jh _ xs vs y = _
    rw [updAll_other (fun q => h (List.mem_cons_of_mem _ q))]
    rw [if_neg (fun q => h (by rw [q]; exact List.mem_cons_self))]
theorem updAll_get : ∀ {xs : List Str} {vs : List Value} {m : Str → Option Value} {i : Nat} {x : Str}, xs.Nodup → vs.length = xs.length → xs[i]? = some x → Jh m xs vs x = vs[i]?
  | [], vs, m, i, x, _, _, h => by simp at h
  | y :: xs, [], m, i, x, _, h, _ => by simp at h
  | y :: xs, v :: vs, m, i, x, hn, hl, h => by
    show Jh _ xs vs x = _
    cases i with
    | zero =>
      simp at h; subst h
      rw [updAll_other (List.nodup_cons.mp hn).1]; simp
    | succ i =>
      simp at h
      rw [updAll_get (List.nodup_cons.mp hn).2 (by simpa using hl) h]; simp
theorem Jl {M : Model} {A : Around} {env : Env} {E : Value → Shared → Prop} (hp : (env.scope.kind == .class || (env.scope.kind == .module && env.locals != env.globals)) = false) :
    ∀ {xs : List Str} {vs : List Value} {m : Str → Option Value} {s : Shared} {Q : Shared → Prop}, (∀ x ∈ xs, env.kindOf x = some .local) → s.heap.Ns env.locals m →
    (∀ h' tk, h'.Ns env.locals (Jh m xs vs) → (∀ b o, b ≠ env.locals → s.heap.get? b = some o → h'.get? b = some o) → Q { s with heap := h', toks := tk }) → Hw M A env E xs vs Q s
  | [], vs, m, s, Q, _, hn, q => q s.heap s.toks hn fun _ _ _ e => e
  | x :: xs, [], m, s, Q, _, hn, q => q s.heap s.toks hn fun _ _ _ e => e
  | x :: xs, v :: vs, m, s, Q, hx, hn, q => by
    show wpAny M A (storeName env x v) (fun _ s' => Hw M A env E xs vs Q s') E s
    refine wpAny_storeName_local (hx x List.mem_cons_self) hn (fun h' hn' hs => ?_) hp
    refine Jl hp (fun y hy => hx y (List.mem_cons_of_mem _ hy)) hn' fun h'' tk hn'' hk => ?_
    exact q h'' tk hn'' fun b o hb e => hk b o hb (hs.extBut b o hb e)
theorem compLoop_go {prog : Program} {w : World} {A : Around} {R : Result → Shared → Prop} {s : Shared} {elt target iter : Expr} {ifs : List Expr} {scope : Scope} {pos : Pos} {it acc : Value} {env : Env} (I : Nat → Shared → Prop)
    (turn : ∀ n s, I n s → wpAny (model prog w) A (pyNext it) (fun r s₁ => match r with
      | none => R (.ok .next) s₁
      | some v => wpAny (model prog w) A (letOwnedTupleGo target it v) (fun _ s₀ => wpAny (model prog w) A (assign target env v) (fun _ s₂ =>
          wpAny (model prog w) A (forIn ifs true fun c r => if r = true then do let ok ← isTrue c env (eval c env); pure (ForInStep.yield ok) else pure (ForInStep.yield r)) (fun ok s₃ =>
            if ok = true then wpAny (model prog w) A (eval elt env) (fun x s₄ => wpAny (model prog w) A (call (.builtin "list.append") [acc, x]) (fun _ s₅ => ∃ m, m < n ∧ I m s₅) (fun _ _ => False) s₄) (fun _ _ => False) s₃
            else ∃ m, m < n ∧ I m s₃) (fun _ _ => False) s₂) (fun _ _ => False) s₀) (fun _ _ => False) s₁) (fun _ _ => False) s)
    (n : Nat) (h : I n s) : codeAny (model prog w) A (.compLoop (.ListComp elt [⟨target, iter, ifs, 0⟩] scope pos) 0 it acc env) R s := by
  refine codeAny_loop rfl I (fun n s hI => ?_) n h
  show wpAny _ A ((compTurn (.ListComp elt [⟨target, iter, ifs, 0⟩] scope pos) 0 it acc env).onRaise (fun x => do noteFrame x env; theTreesLotGoes x)) _ _ s
  refine wpAny_noted ?_
  rw [compTurn_list]
  refine wpAny_bind (wpAny_standAt (wpAny_bind (wpAny_mono (turn n s hI) (fun r s₁ h₁ => ?_) fun _ _ h' => h'.elim)))
  cases r with
  | none => exact wpAny_pure h₁
  | some v =>
    refine wpAny_bind (wpAny_mono h₁ (fun _ s₀ h₀ => wpAny_bind (wpAny_mono h₀ (fun _ s₂ h₂ => wpAny_bind (wpAny_mono h₂ (fun ok s₃ h₃ => ?_) fun _ _ h' => h'.elim)) fun _ _ h' => h'.elim)) fun _ _ h' => h'.elim)
    cases ok with
    | false => exact wpAny_pure ⟨rfl, h₃⟩
    | true =>
      exact wpAny_bind (wpAny_bind (wpAny_mono h₃ (fun x s₄ h₄ => wpAny_bind (wpAny_mono h₄ (fun _ s₅ h₅ => wpAny_pure (wpAny_pure ⟨rfl, h₅⟩)) fun _ _ h' => h'.elim)) fun _ _ h' => h'.elim))
end Mine
end
section
open PySem PyProof.Rows PySem.SeqAt
namespace Mine
set_option tactic.hygienic false
set_option autoImplicit false
noncomputable def Bc (ce : CE) (scope : Scope) (xs : List Str) : CE :=
  { scope := scope, vm := (xs.zipIdx ce.n) ++ ce.vm.filter (fun p => scope.names.lookup p.1 == some .free), n := ce.n + xs.length, gt := ce.gt }
structure ScOk (outer scope : Scope) (xs : List Str) : Prop where
  kind : scope.kind = .function
  kinds : ∀ p ∈ scope.names, p.2 = .local ∨ p.2 = .free ∨ p.2 = .globalImplicit
  self : ∀ p ∈ scope.names, scope.names.lookup p.1 = some p.2
  free : ∀ p ∈ scope.names, p.2 = .free → outer.names.lookup p.1 = some .cell
  loc : ∀ x ∈ xs, scope.names.lookup x = some .local
  nodup : xs.Nodup
theorem ScOk.of {outer scope : Scope} {xs : List Str} (h : Eg outer scope xs = true) : ScOk outer scope xs := by
  unfold Eg at h
  simp only [Bool.and_eq_true, List.all_eq_true, Bool.or_eq_true, beq_iff_eq, bne_iff_ne, decide_eq_true_eq] at h
  obtain ⟨⟨⟨⟨⟨h1, h2⟩, h3⟩, h4⟩, h5⟩, h6⟩ := h
  refine ⟨by simpa using h1, fun p hp => ?_, fun p hp => by simpa using h3 p hp, fun p hp hf => ?_, fun x hx => by simpa using h5 x hx, h6⟩
  · rcases h2 p hp with (h | h) | h
    · exact .inl h
    · exact .inr (.inl h)
    · exact .inr (.inr h)
  · rcases h4 p hp with h | h
    · exact absurd hf h
    · simpa using h
set_option tactic.hygienic true in
theorem Bl : ∀ {xs : List Str} {n i : Nat} {x : Str}, (xs.zipIdx n).lookup x = some i → n ≤ i ∧ xs[i - n]? = some x
  | [], n, i, x, h => by simp at h
  | y :: r, n, i, x, h => by
    rw [List.zipIdx_cons, List.lookup_cons] at h
    split at h
    · rename_i q; cases h; have : x = y := by simpa using q
      subst this; simp
    · obtain ⟨h1, h2⟩ := Bl h
      refine ⟨by exact Nat.le_of_succ_le ‹_›, ?_⟩
      rw [show i - n = (i - (n + 1)) + 1 by lia]; simpa using h2
set_option tactic.hygienic true in
theorem Gw {p : Str → Bool} {x : Str} : ∀ {l : List (Str × Nat)} {i : Nat}, (l.filter fun q => p q.1).lookup x = some i → p x = true ∧ l.lookup x = some i
  | [], i, h => by simp at h
  | (y, j) :: r, i, h => by
    rw [List.filter_cons] at h
    split at h
    · rename_i hp
      rw [List.lookup_cons] at h ⊢
      split at h
      · rename_i q; cases h; have : x = y := by simpa using q
        subst this; exact ⟨hp, rfl⟩
      · exact Gw h
    · rename_i hp
      have := Gw h
      rw [List.lookup_cons]
      split
      · rename_i q; have e : x = y := by simpa using q
        subst e; exact absurd this.1 hp
      · exact this
section
variable {c : Cx} {d : Nat} {ce : CE} {A : Around} {env : Env} {σ : St} {bad : Addr → Prop}
theorem comp_vis {h₁ h : Heap} {scope : Scope} {xs : List Str} {C : Addr} {bad' : Addr → Prop} {vs : List AV} {ws : List Value} {m : Str → Option Value}
    (v : EVis c A ce env σ bad h₁) (sc : ScOk ce.scope scope xs) (k : Kp (Ac A) h₁ h) (hb : ∀ b, bad b → bad' b) (hbn : ∀ b, bad' b → h₁.get? b ≠ none → bad b) (hbd : ∀ b, bad' b → h.get? b ≠ none) (hG : ∀ b, bad' b → c.hG.get? b = none)
    (hn : h.Ns C m) (hm : ∀ (i : Nat) (x : Str), xs[i]? = some x → m x = ws[i]?) (hd : DenL c h bad' vs ws) (hlen : vs.length = xs.length) :
    EVis c A (Bc ce scope xs) (compEnvC scope (clOf env scope.names []) C env) (σ ++ vs.map fun x => some (false, x)) bad' h := by
  have hfree : ∀ p ∈ scope.names, p.2 = .free → ∃ a, env.cells.lookup p.1 = some a := fun p hp hf => (v.ck _ (sc.free p hp hf)).2
  have cy : Eo h₁ h bad bad' := ⟨fun b o hb' e => (k b o e).1 fun q => hb' (v.fsb b q), fun b hb' e q => hb' (hbn b q e)⟩
  have kl : ∀ x kd, scope.names.lookup x = some kd → (compEnvC scope (clOf env scope.names []) C env).kindOf x = some (if (kd == NameKind.free && env.scope.kind == .function && env.kindOf x == some .cell) then NameKind.cell else kd) := fun x kd e => by
    show (relabel scope env).names.lookup x = _
    unfold relabel
    rw [Jp, e]; rfl
  exact {
    kind := sc.kind
    globs := v.globs
    blts := v.blts
    gk := fun x e => by rw [kl x _ e]; rfl
    ck := fun x e => by
      have := sc.kinds _ (Bk e)
      simp at this
    ground := fun b o e => (k b o (v.ground b o e)).1 fun q => by first | exact (nN (v.badG b (v.fsb b q)) e).elim | (rw [v.badG b (v.fsb b q)] at e; cases e)
    badG := hG
    badD := hbd
    fsb := fun b q => hb b (v.fsb b q)
    fr := v.fr.kp k
    n := by simp [Bc, v.n, hlen]
    gt := v.gt
    vb := fun x i e => by
      simp only [Bc, List.lookup_append] at e ⊢
      cases q : (xs.zipIdx ce.n).lookup x with
      | some j =>
        rw [q] at e; simp at e; subst e
        obtain ⟨h1, h2⟩ := Bl q
        have := (List.getElem?_eq_some_iff.mp h2).1
        lia
      | none =>
        rw [q] at e; simp at e
        have := v.vb x i (Gw (p := fun n => scope.names.lookup n == some NameKind.free) e).2
        lia
    var := fun x i own av e1 e2 => by
      simp only [Bc, List.lookup_append] at e1
      cases q : (xs.zipIdx ce.n).lookup x with
      | some j =>
        rw [q] at e1; simp at e1; subst e1
        obtain ⟨h1, h2⟩ := Bl q
        have hj := (List.getElem?_eq_some_iff.mp h2).1
        rw [List.getElem?_append_right (by rw [← v.n]; exact h1), ← v.n, List.getElem?_map] at e2
        cases q2 : vs[j - ce.n]? with
        | none => rw [q2] at e2; cases e2
        | some z =>
          rw [q2] at e2; cases e2
          obtain ⟨u, hu, du⟩ := hd.get q2
          have hx := sc.loc x (List.mem_of_getElem? h2)
          refine ⟨u, .inl ⟨by rw [kl x _ hx]; rfl, m, hn, by rw [hm _ _ h2, hu]⟩, du.r fun b q => hb b (v.fsb b q), fun _ => du.2⟩
      | none =>
        rw [q] at e1; simp at e1
        obtain ⟨f1, f2⟩ := Gw (p := fun n => scope.names.lookup n == some NameKind.free) e1
        have f1 : scope.names.lookup x = some .free := by simpa using f1
        have hi := v.vb x i f2
        rw [List.getElem?_append_left (by rw [← v.n]; exact hi)] at e2
        obtain ⟨u, l, dn, nb⟩ := v.var x i own av f2 e2
        have hcell := (v.ck x (sc.free _ (Bk f1) rfl)).1
        have top : ∀ a, u = .ref a → h₁.get? a ≠ none := fun a e => by subst e; exact DenT.there av a dn.1
        refine ⟨u, ?_, ⟨DenT.carryTop cy av u dn.1 fun a o e q => (k a o q).1 (dn.2 a e), dn.2⟩, fun ho a e q => nb ho a e (hbn a q (top a e))⟩
        rcases l with ⟨e, _⟩ | ⟨e, a, ea, ic⟩
        · rw [hcell] at e; cases e
        · refine .inr ⟨?_, a, ?_, k.isCell ic⟩
          · rw [kl x _ f1, hcell, v.kind]; rfl
          · show (clOf env scope.names []).lookup x = some a
            rw [clOf_lookup hfree f1, ea] }
noncomputable def ST (c : Cx) (d : Nat) (ce : CE) (ifs : List Expr) (m : ME) : Prop :=
  ∀ (A : Around) (env : Env) (σ : St) (bad : Addr → Prop) (s : Shared) (b : Bool), Room A d → EVis c A ce env σ bad s.heap → Bb c.G c.F m σ = some b →
    wpAny (model c.prog c.w) A (forIn ifs true fun c r => if r = true then do let ok ← isTrue c env (eval c env); pure (ForInStep.yield ok) else pure (ForInStep.yield r)) (fun b' s' => b' = b ∧ KpS (Ac A) s s') (fun _ _ => False) s
theorem ST.nil : ST c d ce [] (.lit (.bool true)) := fun A env σ bad s b rm v e => by
  simp [Bb, K9, Aa] at e; subst e
  exact wpAny_tests_nil ⟨rfl, .refl ..⟩
theorem ST.one {t : Expr} {m : ME} (h : SB c d ce t m) : ST c d ce [t] m := fun A env σ bad s b rm v e => wpAny_tests_one (h A env σ bad s b rm v e)
theorem Turns.use {target : Expr} {I : Addr} {fp wr : List Addr} {n : Nat} {D : Nat → Value → Heap → Prop} {St' : Nat → Heap → Prop} (T : Turns c A target I fp wr n D St') {i : Nat} {s : Shared} {G : Option Value → Shared → Prop} {Q : Value → Shared → Prop} {E : Value → Shared → Prop}
    (hi : i < n) (st : St' i s.heap) (hG : ∀ v s₁, wpAny (model c.prog c.w) A (letOwnedTupleGo target (.ref I) v) (fun _ s₂ => Q v s₂) E s₁ → G (some v) s₁)
    (hQ : ∀ v h' tk, D i v h' → St' (i + 1) h' → (∀ b o, b ∉ wr → s.heap.get? b = some o → h'.get? b = some o) → Q v { s with heap := h', toks := tk }) : wpAny (model c.prog c.w) A (pyNext (.ref I)) G E s := by
  refine wpAny_mono (T.turn i s Q E hi st hQ) (fun r s₁ h₁ => ?_) fun _ _ e => e
  obtain ⟨v, rfl, h⟩ := h₁
  exact hG v s₁ h
inductive CompI (c : Cx) (A : Around) (s₁ : Shared) (D C : Addr) (bad' : Addr → Prop) (fp : List Addr) (St' : Nat → Heap → Prop) (ys zs : List AV) (go : List AV → Option (List AV)) (k : Nat) (s' : Shared) : Prop where
  | mk (h' : Heap) (tk : Nat) (m' : Str → Option Value) (us : List Value) (zs₁ zs₂ : List AV) (i : Nat) (e : s' = { s₁ with heap := h', toks := tk }) (hi : i ≤ ys.length) (hk : k = ys.length + 1 - i) (st : St' i h') (hl : h'.IsList D us.toArray) (hn : h'.Ns C m') (kp : Kp (Ac A) s₁.heap h') (hbd : ∀ b, bad' b → h'.get? b ≠ none)
    (hfp : ∀ b ∈ fp, h'.get? b ≠ none) (hden : DenL c h' bad' zs₁ us) (hz : zs₁.length ≤ i) (hzs : zs = zs₁ ++ zs₂) (hgo : go (ys.drop i) = some zs₂)
theorem comp_core {elt target iter : Expr} {ifs : List Expr} {scope : Scope} {pos : Pos} {xs : List Str} {me mt : ME} {s₁ s₂ : Shared} {it : Value} {ys zs : List AV} {cap : Bool} {E : Value → Shared → Prop} {RR : Value → Addr → Result → Shared → Prop}
    (ok : c.Ok) (rm : Room A d) (v : EVis c A ce env σ bad s₁.heap) (ht : Bf target = some xs) (sc : ScOk ce.scope scope xs) (he : SE c d (Bc ce scope xs) true elt me) (hT : ST c d (Bc ce scope xs) ifs mt)
    (src : Src c A target bad (Ac A) cap s₁ ys it s₂) (hl : ys.length ≤ LIM) (hgo0 : Ev (fun σ' => (Ae c.G c.F mt σ').bind Aa) (Ae c.G c.F me) xs.length σ ys = some zs)
    (hRR : ∀ D C h' tk m', s₁.heap.get? D = none → s₁.heap.get? C = none → D ≠ C → h'.Ns C m' → Kp (Ac A) s₁.heap h' → DenT c h' (fun b => bad b ∨ b = C) (mkL zs) (.ref D) → RR (.ref D) C (.ok .next) { s₁ with heap := h', toks := tk }) :
    wpAny (model c.prog c.w) A (newList []) (fun acc s₃ => wpAny (model c.prog c.w) A (newFunctionEnv scope env.globals (clOf env scope.names []) [] env.qual none .none (some env)) (fun cenv s₄ =>
      codeAny (model c.prog c.w) A (.compStart (.ListComp elt [⟨target, iter, ifs, 0⟩] scope pos) 0 it acc { cenv with scope := relabel scope env }) (RR acc cenv.locals) s₄) E s₃) E s₂ := by
  obtain ⟨I, fp, wr, D0, St', rfl, T, hst, ksrc, hwr, hfpfs, hfpb, hfpd, hD⟩ := src
  have hcellk : ∀ x ∈ scope.names, x.2 ≠ .cell := fun x hx e => by
    rcases sc.kinds x hx with h | h | h <;> rw [h] at e <;> cases e
  refine wpAny_newObj_type (wpAny_newFunctionEnv hcellk (by intro y hy; simp at hy) (fun h₁ hns₁ hsb₁ => ?_) sc.kind)
  dsimp only at hns₁ hsb₁ ⊢
  generalize hH2 : s₂.heap.push { cls := .type "list", dict := none, data := .seq ([] : List Value).toArray } = H2 at hns₁ hsb₁ ⊢
  have hC : H2.objs.size = s₂.heap.objs.size + 1 := by rw [← hH2, Heap.size_push]
  obtain ⟨D, hDa⟩ : ∃ D, s₂.heap.objs.size = D := ⟨_, rfl⟩
  obtain ⟨C, hCa⟩ : ∃ C, H2.objs.size = C := ⟨_, rfl⟩
  rw [hDa] at hC
  rw [hCa] at hC
  have hDC : D ≠ C := by rw [hC]; exact Nat.ne_of_lt (Nat.lt_succ_self _)
  have below : ∀ b, s₂.heap.get? b ≠ none → b ≠ C ∧ b ≠ D := fun b hb => by
    cases q : s₂.heap.get? b with
    | none => exact absurd q hb
    | some o =>
      have := Heap.lt_size q; rw [hDa] at this
      exact ⟨by rw [hC]; exact Nat.ne_of_lt (Nat.lt_succ_of_lt this), Nat.ne_of_lt this⟩
  have old : ∀ b o, s₂.heap.get? b = some o → h₁.get? b = some o := fun b o e => hsb₁.extBut b o (by rw [hCa]; exact (below b (by first | exact nn (e) | (rw [e]; simp))).1) (Heap.get?_push_of_some _ (hH2 ▸ Heap.get?_push_of_some _ e))
  have k12 := ksrc.heap
  have hD1 : s₁.heap.get? D = none := k12.dom (by rw [← hDa]; exact Az _)
  have hC1 : s₁.heap.get? C = none := k12.dom (Heap.get?_none_of_le (by rw [hDa, hC]; exact Nat.le_succ _))
  have hlist0 : h₁.IsList D ([] : List Value).toArray := by
    have : H2.IsList D ([] : List Value).toArray := by rw [← hH2, ← hDa]; exact Bg ..
    exact this.at fun o e => hsb₁.extBut D o (by rw [hCa]; exact hDC) (Heap.get?_push_of_some _ e)
  have kp₁ : Kp (Ac A) s₁.heap h₁ := k12.trans (.of old)
  obtain ⟨h₂', tk₂, e₂, _⟩ := ksrc
  -- the bad ones within
  let bad' : Addr → Prop := fun b => bad b ∨ b = C ∨ b = D ∨ b ∈ wr
  have hb : ∀ b, bad b → bad' b := fun b h => .inl h
  have hbn : ∀ b, bad' b → s₁.heap.get? b ≠ none → bad b := fun b h e => by
    rcases h with h | rfl | rfl | h
    · exact h
    · exact absurd hC1 e
    · exact absurd hD1 e
    · exact absurd (hwr b h) e
  have hG : ∀ b, bad' b → c.hG.get? b = none := fun b h => by
    cases q : c.hG.get? b with
    | none => rfl
    | some o => rw [← q]; exact v.badG b (hbn b h (by first | exact nn (v.ground b o q) | (rw [v.ground b o q]; simp)))
  have loop : codeAny (model c.prog c.w) A (.compLoop (.ListComp elt [⟨target, iter, ifs, 0⟩] scope pos) 0 (.ref I) (.ref D) (compEnvC scope (clOf env scope.names []) C env)) (RR (.ref D) C)
      { s₂ with heap := h₁, toks := s₂.toks + ([] : List (Str × Value)).length } := by
    refine compLoop_go (CompI c A s₁ D C bad' fp St' ys zs (Ev (fun σ' => (Ae c.G c.F mt σ').bind Aa) (Ae c.G c.F me) xs.length σ)) ?_ (ys.length + 1) ?_
    · rintro k s' ⟨h', tk, m', us, zs₁, zs₂, i, rfl, hi, rfl, st, hlist, hns, kp, hbd, hfpd', hden, hz, rfl, hgo⟩
      have hll := Em
      by_cases hlt : i < ys.length
      · -- a turn
        refine T.use hlt st (fun _ _ h => h) fun val h₂ tk₂ hDv st₂ hk₂ => ?_
        have hwrfs : ∀ b ∈ wr, b ∉ Ac A := fun b hb' q => hfpfs b (T.sub b hb') q
        have kp₂ : Kp (Ac A) s₁.heap h₂ := fun b o e => by
          have hnw : b ∉ wr := fun q => by first | exact (nN (hwr b q) e).elim | (rw [hwr b q] at e; cases e)
          obtain ⟨h4, sl, h5⟩ := kp b o e
          exact ⟨fun hb' => hk₂ b o hnw (h4 hb'), sl, hk₂ b _ hnw h5⟩
        have cy : Eo s₁.heap h₂ bad bad' := ⟨fun b o hb' e => (kp₂ b o e).1 fun q => hb' (v.fsb b q), fun b hb' e q => hb' (hbn b q e)⟩
        obtain ⟨y, hy, dy, ny⟩ := hD i val h₂ bad' cy hDv
        have hdrop : ys.drop i = y :: ys.drop (i + 1) := by
          rw [List.drop_eq_getElem_cons hlt]
          congr 1
          rw [List.getElem?_eq_getElem hlt] at hy; exact Option.some.inj hy
        rw [hdrop] at hgo
        simp only [Ev] at hgo
        cases qb : Gf xs.length y with
        | none => rw [qb] at hgo; cases hgo
        | some vs =>
          rw [qb] at hgo
          dsimp only at hgo
          obtain ⟨ws, hws, hwl, hasg⟩ := tgt_ok (A := A) ht qb dy ny rm.handled
          have hvl : vs.length = xs.length := by rw [← hwl, hws.length]
          have hCwr : C ∉ wr := fun q => (below C (hfpd C (T.sub C q))).1 rfl
          have hDwr : D ∉ wr := fun q => (below D (hfpd D (T.sub D q))).2 rfl
          have hCfp : C ∉ fp := fun q => (below C (hfpd C q)).1 rfl
          have hDfp : D ∉ fp := fun q => (below D (hfpd D q)).2 rfl
          have hCfs : C ∉ Ac A := fun q => v.badD C (v.fsb C q) hC1
          have hDfs : D ∉ Ac A := fun q => v.badD D (v.fsb D q) hD1
          have stay₂ : ∀ b, h'.get? b ≠ none → h₂.get? b ≠ none ∨ b ∈ wr := fun b hb' => by
            by_cases hw : b ∈ wr
            · exact .inr hw
            · cases q : h'.get? b with
              | none => exact absurd q hb'
              | some o => left; rw [hk₂ b o hw q]; simp
          refine hasg _ _ _ _ rfl fun h₃ hk₃ => ?_
          have hns₃ : h₃.Ns C m' := (hns.at' fun o e => hk₂ C o hCwr e).at' fun o e => hk₃ C o e
          refine Jl (by simp [compEnvC, relabel, sc.kind]) (fun x hx => lookup_relabel_local (sc.loc x hx)) hns₃ fun h₄ tk₄ hns₄ hk₄ => ?_
          dsimp only at hns₄ hk₄ ⊢
          have hns₄ : h₄.Ns C (Jh m' xs ws) := hns₄
          have hk₄ : ∀ b o, b ≠ C → h₃.get? b = some o → h₄.get? b = some o := hk₄
          have hk₂₄ : ∀ b o, b ≠ C → h₂.get? b = some o → h₄.get? b = some o := fun b o hb' e => hk₄ b o hb' (hk₃ b o e)
          have kp₄ : Kp (Ac A) s₁.heap h₄ := fun b o e => by
            have hbC : b ≠ C := fun q => by rw [q, hC1] at e; cases e
            obtain ⟨h5, sl, h6⟩ := kp₂ b o e
            exact ⟨fun hb' => hk₂₄ b o hbC (h5 hb'), sl, hk₂₄ b _ hbC h6⟩
          have st₄ : St' (i + 1) h₄ := T.frame _ _ _ st₂ fun b hb' o e => hk₂₄ b o (fun q => hCfp (q ▸ hb')) e
          have hbd₂ : ∀ b, h'.get? b ≠ none → b ∉ wr → h₄.get? b ≠ none := fun b hb' hw => by
            by_cases hbC : b = C
            · subst hbC; obtain ⟨o, _, _, e, _⟩ := hns₄; rw [e]; simp
            · exact Fq hb' fun o q => ⟨_, hk₂₄ b o hbC (hk₂ b o hw q)⟩
          have hwr₄ : ∀ b ∈ fp, h₄.get? b ≠ none := fun b hb' => by
            have := T.there _ _ st₂ b hb'
            exact Fq this fun o q => ⟨_, hk₂₄ b o (fun q => hCfp (q ▸ hb')) q⟩
          have hbd₄ : ∀ b, bad' b → h₄.get? b ≠ none := fun b hb' => by
            by_cases hw : b ∈ wr
            · exact hwr₄ b (T.sub b hw)
            · exact hbd₂ b (hbd b hb') hw
          have cy₂₄ : Eo h₂ h₄ bad' bad' := ⟨fun b o hb' e => hk₂₄ b o (fun q => hb' (.inr (.inl q))) e, fun _ q _ => q⟩
          have cy₀₂ : Eo h' h₂ bad' bad' := ⟨fun b o hb' e => hk₂ b o (fun q => hb' (.inr (.inr (.inr q)))) e, fun _ q _ => q⟩
          have vis := comp_vis v sc kp₄ hb hbn hbd₄ hG hns₄ (fun i x hx => updAll_get sc.nodup hwl hx) (DenL.carry cy₂₄ _ _ hws) hvl
          have hlist₄ : h₄.IsList D us.toArray := hlist.at fun o e => hk₂₄ D o hDC (hk₂ D o hDwr e)
          have hden₄ : DenL c h₄ bad' zs₁ us := DenL.carry (cy₀₂.trans cy₂₄) _ _ hden
          cases qt : (Ae c.G c.F mt (σ ++ vs.map fun x => some (false, x))).bind Aa with
          | none => rw [qt] at hgo; cases hgo
          | some t =>
            rw [qt] at hgo
            refine wpAny_mono (hT A _ _ bad' _ t rm vis qt) (fun t' s₅ h₅ => ?_) fun _ _ q => q
            obtain ⟨rfl, k₅⟩ := h₅
            obtain ⟨h₅, tk₅, rfl, k₅⟩ := k₅
            dsimp only at k₅
            have fixed₅ : ∀ b o, b ∉ Ac A → h₄.get? b = some o → h₅.get? b = some o := fun b o hb' e => (k₅ b o e).1 hb'
            have vis₅ := vis.kp k₅
            have st₅ : St' (i + 1) h₅ := T.frame _ _ _ st₄ fun b hb' o e => fixed₅ b o (hfpfs b hb') e
            cases t' with
            | false =>
              rw [if_neg (by simp)]
              dsimp only at hgo
              refine ⟨ys.length + 1 - (i + 1), by lia, h₅, tk₅, _, us, zs₁, zs₂, i + 1, rfl, hlt, rfl, st₅, hlist₄.at fun o e => fixed₅ D o hDfs e, k₅.ns hns₄, kp₄.trans k₅, fun b hb' => k₅.stay (hbd₄ b hb'), fun b hb' => k₅.stay (hwr₄ b hb'), hden₄.kp k₅ (fun b q => hb b (v.fsb b q)), by exact Nat.le_trans ‹_› (Nat.le_add_right _ _), rfl, hgo⟩
            | true =>
              rw [if_pos rfl]
              dsimp only at hgo
              cases qe : Ae c.G c.F me (σ ++ vs.map fun x => some (false, x)) with
              | none => rw [qe] at hgo; cases hgo
              | some z =>
                rw [qe] at hgo
                dsimp only at hgo
                rw [Option.map_eq_some_iff] at hgo
                obtain ⟨zs₃, hgo, rfl⟩ := hgo
                refine wpAny_mono (he A _ _ bad' _ z rm vis₅ qe) (fun u s₆ h₆ => ?_) fun _ _ q => q
                obtain ⟨⟨h₆, tk₆, rfl, k₆⟩, dz, nz, _⟩ := h₆
                dsimp only at k₆ dz
                have fixed₆ : ∀ b o, b ∉ Ac A → h₅.get? b = some o → h₆.get? b = some o := fun b o hb' e => (k₆ b o e).1 hb'
                have hlist₆ : h₆.IsList D us.toArray := (hlist₄.at fun o e => fixed₅ D o hDfs e).at fun o e => fixed₆ D o hDfs e
                have hul : us.length = zs₁.length := hden.length
                refine wpAny_list_append hlist₆ (fun h₇ hl₇ hs₇ => ?_) (by rw [List.size_toArray, hul]; lia)
                have hDu : ∀ b, b ≠ D → ∀ o, h₆.get? b = some o → h₇.get? b = some o := fun b hb' o e => hs₇.extBut b o hb' e
                have cy₇ : Eo h₆ h₇ bad' bad' := ⟨fun b o hb' e => hDu b (fun q => hb' (.inr (.inr (.inl q)))) o e, fun _ q _ => q⟩
                have stay₇ : ∀ b, h₆.get? b ≠ none → h₇.get? b ≠ none := fun b hb' => by
                  by_cases hbD : b = D
                  · subst hbD; obtain ⟨o, e, _⟩ := hl₇; rw [e]; simp
                  · exact Fq hb' fun o q => ⟨_, hDu b hbD o q⟩
                have kp₆ := (kp₄.trans k₅).trans k₆
                refine ⟨ys.length + 1 - (i + 1), by lia, h₇, tk₆, Jh m' xs ws, us ++ [u], zs₁ ++ [z], zs₃, i + 1, rfl, hlt, rfl, ?_, by simpa using hl₇, ?_, ?_, ?_, ?_, ?_, by simp; assumption, by simp, hgo⟩
                · exact T.frame _ _ _ (T.frame _ _ _ st₅ fun b hb' o e => fixed₆ b o (hfpfs b hb') e) fun b hb' o e => hDu b (fun q => hDfp (q ▸ hb')) o e
                · exact (k₆.ns (k₅.ns hns₄)).at' fun o e => hDu C (Ne.symm hDC) o e
                · intro b o e
                  have hbD : b ≠ D := fun q => by rw [q, hD1] at e; cases e
                  obtain ⟨h8, sl, h9⟩ := kp₆ b o e
                  exact ⟨fun hb' => hDu b hbD o (h8 hb'), sl, hDu b hbD _ h9⟩
                · exact fun b hb' => stay₇ b (k₆.stay (k₅.stay (hbd₄ b hb')))
                · exact fun b hb' => stay₇ b (k₆.stay (k₅.stay (hwr₄ b hb')))
                · refine DenL.append (DenL.carry cy₇ _ _ ((hden₄.kp k₅ (fun b q => hb b (v.fsb b q))).kp k₆ (fun b q => hb b (v.fsb b q)))) ?_
                  simp only [DenL]
                  exact ⟨u, [], rfl, (dz.den (nz rfl)).carry cy₇, rfl⟩
      · -- the end
        have : i = ys.length := by with_reducible exact (ZE ‹_› ‹_›)
        subst this
        refine T.done _ _ _ st fun h₂ tk₂ hk₂ => ?_
        show RR (.ref D) C (.ok .next) _
        simp only [List.drop_length, Ev] at hgo
        cases hgo
        have hCwr : C ∉ wr := fun q => (below C (hfpd C (T.sub C q))).1 rfl
        have hDwr : D ∉ wr := fun q => (below D (hfpd D (T.sub D q))).2 rfl
        refine hRR D C h₂ tk₂ m' hD1 hC1 hDC (hns.at' fun o e => hk₂ C o hCwr e) ?_ ?_
        · intro b o e
          have hnw : b ∉ wr := fun q => by first | exact (nN (hwr b q) e).elim | (rw [hwr b q] at e; cases e)
          obtain ⟨h4, sl, h5⟩ := kp b o e
          exact ⟨fun hb' => hk₂ b o hnw (h4 hb'), sl, hk₂ b _ hnw h5⟩
        · have cy₀₂ : Eo h' h₂ bad' (fun b => bad b ∨ b = C) := ⟨fun b o hb' e => hk₂ b o (fun q => hb' (.inr (.inr (.inr q)))) e, fun b q _ => fun q' => q (by rcases q' with q' | q'; exact .inl q'; exact .inr (.inl q'))⟩
          simp only [List.append_nil]
          exact den_mkL (hlist.at fun o e => hk₂ D o hDwr e) (DenL.carry cy₀₂ _ _ hden) (by with_reducible exact Nat.le_trans ‹_› ‹_›)
    · subst e₂
      refine ⟨h₁, _, _, [], [], zs, 0, rfl, Nat.zero_le _, rfl, T.frame _ _ _ hst fun b _ o e => old b o e, hlist0, by rw [hCa] at hns₁; exact hns₁, kp₁, ?_, ?_, by simp [DenL], Nat.le_refl _, rfl, by simpa using hgo0⟩
      · intro b hb'
        rcases hb' with h | rfl | rfl | h
        · exact kp₁.stay (v.badD b h)
        · rw [hCa] at hns₁; obtain ⟨o, _, _, e, _⟩ := hns₁; rw [e]; simp
        · obtain ⟨o, e, _⟩ := hlist0; rw [e]; simp
        · have := hfpd b (T.sub b h)
          exact Fq this fun o q => ⟨_, old b o q⟩
      · intro b hb'
        have := hfpd b hb'
        exact Fq this fun o q => ⟨_, old b o q⟩
  rw [hCa, hDa]
  exact codeAny_compStart_list loop (T.self 0 _ _ _ (T.frame _ _ _ hst fun b _ o e => old b o e) loop)
end
end Mine
end
section
open PySem PyProof.Rows PySem.SeqAt
namespace Mine
set_option tactic.hygienic false
set_option autoImplicit false
section
variable {c : Cx} {d : Nat} {ce : CE} {cap : Bool}
noncomputable def Hc (e : Expr) : Prop := ∀ env x, foldedSetIterable e env x = pure x
set_option tactic.hygienic true in
theorem comp_use {elt target iter : Expr} {ifs : List Expr} {scope : Scope} {pos : Pos} {xs : List Str} {me mi mt : ME} {cpi : Bool} {A : Around} {env : Env} {σ : St} {bad : Addr → Prop} {s : Shared} {av : AV} {use : Option (Value → Sem Unit)} {Q : Value → Shared → Prop} {E : Value → Shared → Prop} {p' : Pos}
    (ok : c.Ok) (ht : Bf target = some xs) (sc : ScOk ce.scope scope xs) (hu : Hc iter) (hi : SI c d ce cpi iter mi) (he : SE c d (Bc ce scope xs) true elt me) (hT : ST c d (Bc ce scope xs) ifs mt)
    (rm : Room A d) (v : EVis c A ce env σ bad s.heap) (e : Ae c.G c.F (.comp me xs.length mi mt) σ = some av)
    (hQ : ∀ D C h' tk m', s.heap.get? D = none → s.heap.get? C = none → D ≠ C → h'.Ns C m' → Kp (Ac A) s.heap h' → DenT c h' (fun b => bad b ∨ b = C) av (.ref D) → compPost (model c.prog c.w) A E use Q (.ref D) C (.ok .next) { s with heap := h', toks := tk }) :
    wpAny (model c.prog c.w) A (comprehension (.ListComp elt [⟨target, iter, ifs, 0⟩] scope pos) scope env p' (newList []) false (eval iter env) use) Q E s := by
  simp only [V1] at e
  split at e
  · rename_i src qs
    split at e
    · rename_i ys qi
      split at e
      · rename_i hlen
        rw [Option.map_eq_some_iff] at e
        obtain ⟨zs, hgo, rfl⟩ := e
        have hfree : ∀ p ∈ scope.names, p.2 = .free → ∃ a, env.cells.lookup p.1 = some a := fun p hp hf => (v.ck _ (sc.free p hp hf)).2
        refine wpAny_comprehension_free rfl (hu env) (closure_is hfree) sc.kind (fun x hx hl => by rw [sc.self x hx, hl]) ?_
        refine wpAny_mono (hi A env σ bad s src ys target rm v qs qi) (fun x s₁ h₁ => wpAny_mono h₁ (fun it s₂ h₂ => ?_) fun _ _ q => q.elim) fun _ _ q => q.elim
        obtain ⟨s₀, k₀, hsrc⟩ := h₂
        refine comp_core (RR := fun acc C => compPost (model c.prog c.w) A E use Q acc C) ok rm (v.kpS k₀) ht sc he hT hsrc hlen hgo fun D C h' tk m' hD hC hDC hn kp dn => ?_
        have := hQ D C h' tk m' (k₀.heap.dom hD) (k₀.heap.dom hC) hDC hn (k₀.heap.trans kp) dn
        obtain ⟨h₀, tk₀, rfl, _⟩ := k₀
        exact this
      · cases e
    · cases e
  · cases e
theorem comp_den {h' h'' : Heap} {bad : Addr → Prop} {C D : Addr} {av : AV} (dn : DenT c h' (fun b => bad b ∨ b = C) av (.ref D)) (hDC : D ≠ C) (hs : ∀ b o, b ≠ C → h'.get? b = some o → h''.get? b = some o) : DenT c h'' bad av (.ref D) :=
  DenT.carryTop (bad' := bad) ⟨fun b o hb e => hs b o (fun q => hb (.inr q)) e, fun b hb _ q => hb (.inl q)⟩ av _ dn fun a o e q => by cases e; exact hs _ o hDC q
theorem SE.comp {elt target iter : Expr} {ifs : List Expr} {scope : Scope} {pos : Pos} {xs : List Str} {me mi mt : ME} {cpi : Bool}
    (ok : c.Ok) (ht : Bf target = some xs) (sc : ScOk ce.scope scope xs) (hu : Hc iter) (hi : SI c d ce cpi iter mi) (he : SE c d (Bc ce scope xs) true elt me) (hT : ST c d (Bc ce scope xs) ifs mt) :
    SE c d ce cap (.ListComp elt [⟨target, iter, ifs, 0⟩] scope pos) (.comp me xs.length mi mt) := fun A env σ bad s av rm v e => by
  rw [eval_ListComp]
  refine comp_use ok ht sc hu hi he hT rm v e fun D C h' tk m' hD hC hDC hn kp dn => ?_
  refine ⟨m', hn, fun h'' hs => ?_⟩
  have kp'' : Kp (Ac A) s.heap h'' := fun b o e => by
    have hb : b ≠ C := fun q => by rw [q, hC] at e; cases e
    obtain ⟨h4, sl, h5⟩ := kp b o e
    exact ⟨fun q => hs.extBut b o hb (h4 q), sl, hs.extBut b _ hb h5⟩
  exact .new (.mk _ _ _ kp'') v.fsb v.badD hD (comp_den dn hDC fun b o hb e => hs.extBut b o hb e)
theorem cop_of {op : CmpOp} {o : COp} (h : copOf op = some o) : op = Gj o ∧ ¬ (o = .isNone ∨ o = .isNotNone) := by
  cases op <;> simp only [copOf] at h <;> first | (cases h; done) | (cases h; exact ⟨rfl, by simp⟩)
theorem bop_of {op : Operator} {o : BOp} (h : bopOf op = some o) : op = opOf o := by
  cases op <;> simp only [bopOf] at h <;> first | (cases h; done) | (cases h; rfl)
noncomputable def plainIt : Expr → Bool
  | .Set .. => false
  | _ => true
theorem plainIt_is {e : Expr} (h : plainIt e = true) : Hc e := by
  intro env x
  cases e <;> first | rfl | (cases h; done)
noncomputable def Iu : Expr → Bool
  | .Constant .. | .Name .. | .BinOp .. | .UnaryOp .. | .BoolOp .. | .Compare .. | .List .. | .Tuple .. | .Dict .. | .Subscript .. | .Call .. => true
  | _ => false
theorem swPlain_is {e : Expr} (h : Iu e = true) (x : Str) (p' : Pos) (n : Nat) (env : Env) : swapsWith e (some (.Name x p')) n env = pure false := by
  cases e <;> first | rfl | (cases h; done)
end
end Mine
end
section
open PySem PyProof.Rows PySem.SeqAt
namespace Mine
set_option tactic.hygienic false
set_option autoImplicit false
set_option genCtorIdx false in
inductive Job where
  | ex (ce : CE) (cap : Bool) (e : Expr)
  | li (ce : CE) (es : List Expr)
  | al (ce : CE) (cap : Bool) (op : BoolOp) (es : List Expr) (p : Pos)
  | it (ce : CE) (cap : Bool) (e : Expr)
  | ts (ce : CE) (ifs : List Expr)
noncomputable abbrev Job.ctorIdx (x : Job) : Nat := @Job.casesOn (fun _ => Nat) x (fun _ _ _ => 0) (fun _ _ => 1) (fun _ _ _ _ _ => 2) (fun _ _ _ => 3) (fun _ _ => 4)
noncomputable def boolM : BoolOp → ME → ME → ME
  | .And, a, b => .and a b
  | .Or, a, b => .or a b
structure RulesE  (P : Job → ME → Prop) : Prop where
  cNone : ∀ {ce cap k p}, P (.ex ce cap (.Constant .none k p)) (.lit .none)
  cBool : ∀ {ce cap b k p}, P (.ex ce cap (.Constant (.bool b) k p)) (.lit (.bool b))
  cInt : ∀ {ce cap i k p}, P (.ex ce cap (.Constant (.int i) k p)) (.lit (.int i))
  cStr : ∀ {ce cap x k p} (h : x.cps.size ≤ LIM), P (.ex ce cap (.Constant (.str x) k p)) (.lit (.str x.cps.toList))
  rd : ∀ {ce x p i} (hd : (x == ("__debug__" : Str)) = false) (hv : ce.vm.lookup x = some i), P (.ex ce false (.Name x p)) (.rd i)
  var : ∀ {ce x p i} (hd : (x == ("__debug__" : Str)) = false) (hv : ce.vm.lookup x = some i), P (.ex ce true (.Name x p)) (.var i)
  glob : ∀ {ce cap x p} (hg : ce.glob x = some .tab), P (.ex ce cap (.Name x p)) (.glob x)
  bin : ∀ {ce cap l op r p o a b} (ho : op = opOf o) (ha : P (.ex ce false l) a) (hb : P (.ex ce false r) b), P (.ex ce cap (.BinOp l op r p)) (.bin o a b)
  not : ∀ {ce cap x p a} (ha : P (.ex ce false x) a), P (.ex ce cap (.UnaryOp .Not x p)) (.not a)
  neg : ∀ {ce cap x p a} (ha : P (.ex ce false x) a), P (.ex ce cap (.UnaryOp .USub x p)) (.neg a)
  bool : ∀ {ce cap op es p m} (h : P (.al ce cap op es p) m), P (.ex ce cap (.BoolOp op es p)) m
  one : ∀ {ce cap op e p m} (h : P (.ex ce cap e) m), P (.al ce cap op [e] p) m
  two : ∀ {ce cap op e e' r p a b} (h : P (.ex ce cap e) a) (hr : P (.al ce cap op (e' :: r) p) b), P (.al ce cap op (e :: e' :: r) p) (boolM op a b)
  isType : ∀ {ce cap ty p₁ x p₂ t p₃ p tn a} (hg : ce.glob ty = some (.ty "type")) (hg' : ce.glob t = some (.ty tn)) (hs : Ai x = true) (ha : P (.ex ce false x) a), P (.ex ce cap (.Compare (.Call (.Name ty p₁) [x] [] p₂) [.Is] [.Name t p₃] p)) (.isType tn a)
  isNone : ∀ {ce cap l k p' p a} (ha : P (.ex ce false l) a), P (.ex ce cap (.Compare l [.Is] [.Constant .none k p'] p)) (.cmp .isNone a (.lit .none))
  isNotNone : ∀ {ce cap l k p' p a} (ha : P (.ex ce false l) a), P (.ex ce cap (.Compare l [.IsNot] [.Constant .none k p'] p)) (.cmp .isNotNone a (.lit .none))
  cmp : ∀ {ce cap l op r p o a b} (ho : op = Gj o) (hn : ¬ (o = .isNone ∨ o = .isNotNone)) (hm : behindInMarks op r = false) (ha : P (.ex ce false l) a) (hb : P (.ex ce false r) b), P (.ex ce cap (.Compare l [op] [r] p)) (.cmp o a b)
  list : ∀ {ce cap es p m} (h : P (.li ce es) m), P (.ex ce cap (.List es p)) (.list m)
  tup : ∀ {ce cap es k p m} (h : P (.li ce es) m), P (.ex ce cap (.Tuple es k p)) (.tup m)
  nil : ∀ {ce}, P (.li ce []) .nil
  cons : ∀ {ce e r a b} (hs : Ai e = true) (ha : P (.ex ce true e) a) (hb : P (.li ce r) b), P (.li ce (e :: r)) (.cons a b)
  dict0 : ∀ {ce cap p}, P (.ex ce cap (.Dict [] [] p)) .dict0
  sliceTo : ∀ {ce cap v u p' p a b} (ha : P (.ex ce false v) a) (hb : P (.ex ce false u) b), P (.ex ce cap (.Subscript v (.Slice none (some u) none p') p)) (.sliceTo a b)
  sliceFrom : ∀ {ce cap v u p' p a b} (ha : P (.ex ce false v) a) (hb : P (.ex ce false u) b), P (.ex ce cap (.Subscript v (.Slice (some u) none none p') p)) (.sliceFrom a b)
  idx : ∀ {ce cap v u p a b} (ha : P (.ex ce false v) a) (hb : P (.ex ce false u) b), P (.ex ce cap (.Subscript v u p)) (.idx a b)
  call : ∀ {ce cap x p' e r p i fr m} (hg : ce.glob x = some (.fn i fr)) (hs : Ai e = true) (h : P (.li ce (e :: r)) m), P (.ex ce cap (.Call (.Name x p') (e :: r) [] p)) (.call i m)
  f1b : ∀ {ce cap x p' e p id g m} (hg : ce.glob x = some (.bi id)) (hf : fval g = .builtin id) (hs : Ai e = true) (h : P (.ex ce false e) m), P (.ex ce cap (.Call (.Name x p') [e] [] p)) (.f1 g m)
  f1t : ∀ {ce cap x p' e p id g m} (hg : ce.glob x = some (.ty id)) (hf : fval g = .type id) (hs : Ai e = true) (h : P (.ex ce false e) m), P (.ex ce cap (.Call (.Name x p') [e] [] p)) (.f1 g m)
  join : ∀ {ce cap o meth apos a p x y} (hm : meth = ("join" : Str)) (hl : (apos.endLine == p.line) = true) (hb : Jq o = false) (hs : Ai a = true) (ho : P (.ex ce false o) x) (ha : P (.ex ce false a) y), P (.ex ce cap (.Call (.Attribute o meth apos) [a] [] p)) (.join x y)
  get : ∀ {ce cap o meth apos a b p x y z} (hm : meth = ("get" : Str)) (hl : (apos.endLine == p.line) = true) (hb : Jq o = false) (hs : Ai a = true) (hs' : Ai b = true) (ho : P (.ex ce false o) x) (ha : P (.ex ce false a) y) (hb' : P (.ex ce false b) z), P (.ex ce cap (.Call (.Attribute o meth apos) [a, b] [] p)) (.get x y z)
  comp : ∀ {ce cap elt tgt iter ifs scope p xs me mi mt} (ht : Bf tgt = some xs) (hsc : Eg ce.scope scope xs = true) (hi : P (.it ce false iter) mi) (he : P (.ex (Bc ce scope xs) true elt) me) (hT : P (.ts (Bc ce scope xs) ifs) mt), P (.ex ce cap (.ListComp elt [⟨tgt, iter, ifs, 0⟩] scope p)) (.comp me xs.length mi mt)
  tNil : ∀ {ce}, P (.ts ce []) (.lit (.bool true))
  tOne : ∀ {ce t m} (h : P (.ex ce false t) m), P (.ts ce [t]) m
  tChain : ∀ {ce l q₁ q₂ r₁ r₂ p o₁ o₂ a b e'} (h₁ : q₁ = Gj o₁) (h₂ : q₂ = Gj o₂) (hn₁ : ¬ (o₁ = .isNone ∨ o₁ = .isNotNone)) (hn₂ : ¬ (o₂ = .isNone ∨ o₂ = .isNotNone)) (hm : behindInMarks q₂ r₂ = false) (ha : P (.ex ce false l) a) (hb : P (.ex ce false r₁) b) (he : P (.ex ce false r₂) e'), P (.ts ce [.Compare l [q₁, q₂] [r₁, r₂] p]) (.chain o₁ o₂ a b e')
  range1 : ∀ {ce cap x p' a p m} (hg : ce.glob x = some (.ty "range")) (hs : Ai a = true) (ha : P (.ex ce false a) m), P (.it ce cap (.Call (.Name x p') [a] [] p)) (.range (.lit (.int 0)) m (.lit (.int 1)))
  range2 : ∀ {ce cap x p' a b p m n} (hg : ce.glob x = some (.ty "range")) (hs : Ai a = true) (hs' : Ai b = true) (ha : P (.ex ce false a) m) (hb : P (.ex ce false b) n), P (.it ce cap (.Call (.Name x p') [a, b] [] p)) (.range m n (.lit (.int 1)))
  range3 : ∀ {ce cap x p' a b e p m n k} (hg : ce.glob x = some (.ty "range")) (hs : Ai a = true) (hs' : Ai b = true) (hs'' : Ai e = true) (ha : P (.ex ce false a) m) (hb : P (.ex ce false b) n) (he : P (.ex ce false e) k), P (.it ce cap (.Call (.Name x p') [a, b, e] [] p)) (.range m n k)
  of : ∀ {ce cap e m} (hp : plainIt e = true) (h : P (.ex ce cap e) m), P (.it ce cap e) m
noncomputable def Comp  (j : Job) (m : ME) : Prop := ∀ P : Job → ME → Prop, RulesE  P → P j m
theorem Comp.cNone  {ce cap k p} : Comp (.ex ce cap (.Constant .none k p)) (.lit .none) := fun P R => R.cNone 
theorem Comp.cBool  {ce cap b k p} : Comp (.ex ce cap (.Constant (.bool b) k p)) (.lit (.bool b)) := fun P R => R.cBool 
theorem Comp.cInt  {ce cap i k p} : Comp (.ex ce cap (.Constant (.int i) k p)) (.lit (.int i)) := fun P R => R.cInt 
theorem Comp.cStr  {ce cap x k p} (h : x.cps.size ≤ LIM) : Comp (.ex ce cap (.Constant (.str x) k p)) (.lit (.str x.cps.toList)) := fun P R => R.cStr h
theorem Comp.rd  {ce x p i} (hd : (x == ("__debug__" : Str)) = false) (hv : ce.vm.lookup x = some i) : Comp (.ex ce false (.Name x p)) (.rd i) := fun P R => R.rd hd hv
theorem Comp.var  {ce x p i} (hd : (x == ("__debug__" : Str)) = false) (hv : ce.vm.lookup x = some i) : Comp (.ex ce true (.Name x p)) (.var i) := fun P R => R.var hd hv
theorem Comp.glob  {ce cap x p} (hg : ce.glob x = some .tab) : Comp (.ex ce cap (.Name x p)) (.glob x) := fun P R => R.glob hg
theorem Comp.bin  {ce cap l op r p o a b} (ho : op = opOf o) (ha : Comp (.ex ce false l) a) (hb : Comp (.ex ce false r) b) : Comp (.ex ce cap (.BinOp l op r p)) (.bin o a b) := fun P R => R.bin ho (ha P R) (hb P R)
theorem Comp.not  {ce cap x p a} (ha : Comp (.ex ce false x) a) : Comp (.ex ce cap (.UnaryOp .Not x p)) (.not a) := fun P R => R.not (ha P R)
theorem Comp.neg  {ce cap x p a} (ha : Comp (.ex ce false x) a) : Comp (.ex ce cap (.UnaryOp .USub x p)) (.neg a) := fun P R => R.neg (ha P R)
theorem Comp.bool  {ce cap op es p m} (h : Comp (.al ce cap op es p) m) : Comp (.ex ce cap (.BoolOp op es p)) m := fun P R => R.bool (h P R)
theorem Comp.one  {ce cap op e p m} (h : Comp (.ex ce cap e) m) : Comp (.al ce cap op [e] p) m := fun P R => R.one (h P R)
theorem Comp.two  {ce cap op e e' r p a b} (h : Comp (.ex ce cap e) a) (hr : Comp (.al ce cap op (e' :: r) p) b) : Comp (.al ce cap op (e :: e' :: r) p) (boolM op a b) := fun P R => R.two (h P R) (hr P R)
theorem Comp.isType  {ce cap ty p₁ x p₂ t p₃ p tn a} (hg : ce.glob ty = some (.ty "type")) (hg' : ce.glob t = some (.ty tn)) (hs : Ai x = true) (ha : Comp (.ex ce false x) a) : Comp (.ex ce cap (.Compare (.Call (.Name ty p₁) [x] [] p₂) [.Is] [.Name t p₃] p)) (.isType tn a) := fun P R => R.isType hg hg' hs (ha P R)
theorem Comp.isNone  {ce cap l k p' p a} (ha : Comp (.ex ce false l) a) : Comp (.ex ce cap (.Compare l [.Is] [.Constant .none k p'] p)) (.cmp .isNone a (.lit .none)) := fun P R => R.isNone (ha P R)
theorem Comp.isNotNone  {ce cap l k p' p a} (ha : Comp (.ex ce false l) a) : Comp (.ex ce cap (.Compare l [.IsNot] [.Constant .none k p'] p)) (.cmp .isNotNone a (.lit .none)) := fun P R => R.isNotNone (ha P R)
theorem Comp.cmp  {ce cap l op r p o a b} (ho : op = Gj o) (hn : ¬ (o = .isNone ∨ o = .isNotNone)) (hm : behindInMarks op r = false) (ha : Comp (.ex ce false l) a) (hb : Comp (.ex ce false r) b) : Comp (.ex ce cap (.Compare l [op] [r] p)) (.cmp o a b) := fun P R => R.cmp ho hn hm (ha P R) (hb P R)
theorem Comp.list  {ce cap es p m} (h : Comp (.li ce es) m) : Comp (.ex ce cap (.List es p)) (.list m) := fun P R => R.list (h P R)
theorem Comp.tup  {ce cap es k p m} (h : Comp (.li ce es) m) : Comp (.ex ce cap (.Tuple es k p)) (.tup m) := fun P R => R.tup (h P R)
theorem Comp.nil  {ce} : Comp (.li ce []) .nil := fun P R => R.nil 
theorem Comp.cons  {ce e r a b} (hs : Ai e = true) (ha : Comp (.ex ce true e) a) (hb : Comp (.li ce r) b) : Comp (.li ce (e :: r)) (.cons a b) := fun P R => R.cons hs (ha P R) (hb P R)
theorem Comp.dict0  {ce cap p} : Comp (.ex ce cap (.Dict [] [] p)) .dict0 := fun P R => R.dict0 
theorem Comp.sliceTo  {ce cap v u p' p a b} (ha : Comp (.ex ce false v) a) (hb : Comp (.ex ce false u) b) : Comp (.ex ce cap (.Subscript v (.Slice none (some u) none p') p)) (.sliceTo a b) := fun P R => R.sliceTo (ha P R) (hb P R)
theorem Comp.sliceFrom  {ce cap v u p' p a b} (ha : Comp (.ex ce false v) a) (hb : Comp (.ex ce false u) b) : Comp (.ex ce cap (.Subscript v (.Slice (some u) none none p') p)) (.sliceFrom a b) := fun P R => R.sliceFrom (ha P R) (hb P R)
theorem Comp.idx  {ce cap v u p a b} (ha : Comp (.ex ce false v) a) (hb : Comp (.ex ce false u) b) : Comp (.ex ce cap (.Subscript v u p)) (.idx a b) := fun P R => R.idx (ha P R) (hb P R)
theorem Comp.call  {ce cap x p' e r p i fr m} (hg : ce.glob x = some (.fn i fr)) (hs : Ai e = true) (h : Comp (.li ce (e :: r)) m) : Comp (.ex ce cap (.Call (.Name x p') (e :: r) [] p)) (.call i m) := fun P R => R.call hg hs (h P R)
theorem Comp.f1b  {ce cap x p' e p id g m} (hg : ce.glob x = some (.bi id)) (hf : fval g = .builtin id) (hs : Ai e = true) (h : Comp (.ex ce false e) m) : Comp (.ex ce cap (.Call (.Name x p') [e] [] p)) (.f1 g m) := fun P R => R.f1b hg hf hs (h P R)
theorem Comp.f1t  {ce cap x p' e p id g m} (hg : ce.glob x = some (.ty id)) (hf : fval g = .type id) (hs : Ai e = true) (h : Comp (.ex ce false e) m) : Comp (.ex ce cap (.Call (.Name x p') [e] [] p)) (.f1 g m) := fun P R => R.f1t hg hf hs (h P R)
theorem Comp.join  {ce cap o meth apos a p x y} (hm : meth = ("join" : Str)) (hl : (apos.endLine == p.line) = true) (hb : Jq o = false) (hs : Ai a = true) (ho : Comp (.ex ce false o) x) (ha : Comp (.ex ce false a) y) : Comp (.ex ce cap (.Call (.Attribute o meth apos) [a] [] p)) (.join x y) := fun P R => R.join hm hl hb hs (ho P R) (ha P R)
theorem Comp.get  {ce cap o meth apos a b p x y z} (hm : meth = ("get" : Str)) (hl : (apos.endLine == p.line) = true) (hb : Jq o = false) (hs : Ai a = true) (hs' : Ai b = true) (ho : Comp (.ex ce false o) x) (ha : Comp (.ex ce false a) y) (hb' : Comp (.ex ce false b) z) : Comp (.ex ce cap (.Call (.Attribute o meth apos) [a, b] [] p)) (.get x y z) := fun P R => R.get hm hl hb hs hs' (ho P R) (ha P R) (hb' P R)
theorem Comp.comp  {ce cap elt tgt iter ifs scope p xs me mi mt} (ht : Bf tgt = some xs) (hsc : Eg ce.scope scope xs = true) (hi : Comp (.it ce false iter) mi) (he : Comp (.ex (Bc ce scope xs) true elt) me) (hT : Comp (.ts (Bc ce scope xs) ifs) mt) : Comp (.ex ce cap (.ListComp elt [⟨tgt, iter, ifs, 0⟩] scope p)) (.comp me xs.length mi mt) := fun P R => R.comp ht hsc (hi P R) (he P R) (hT P R)
theorem Comp.tNil  {ce} : Comp (.ts ce []) (.lit (.bool true)) := fun P R => R.tNil 
theorem Comp.tOne  {ce t m} (h : Comp (.ex ce false t) m) : Comp (.ts ce [t]) m := fun P R => R.tOne (h P R)
theorem Comp.tChain  {ce l q₁ q₂ r₁ r₂ p o₁ o₂ a b e'} (h₁ : q₁ = Gj o₁) (h₂ : q₂ = Gj o₂) (hn₁ : ¬ (o₁ = .isNone ∨ o₁ = .isNotNone)) (hn₂ : ¬ (o₂ = .isNone ∨ o₂ = .isNotNone)) (hm : behindInMarks q₂ r₂ = false) (ha : Comp (.ex ce false l) a) (hb : Comp (.ex ce false r₁) b) (he : Comp (.ex ce false r₂) e') : Comp (.ts ce [.Compare l [q₁, q₂] [r₁, r₂] p]) (.chain o₁ o₂ a b e') := fun P R => R.tChain h₁ h₂ hn₁ hn₂ hm (ha P R) (hb P R) (he P R)
theorem Comp.range1  {ce cap x p' a p m} (hg : ce.glob x = some (.ty "range")) (hs : Ai a = true) (ha : Comp (.ex ce false a) m) : Comp (.it ce cap (.Call (.Name x p') [a] [] p)) (.range (.lit (.int 0)) m (.lit (.int 1))) := fun P R => R.range1 hg hs (ha P R)
theorem Comp.range2  {ce cap x p' a b p m n} (hg : ce.glob x = some (.ty "range")) (hs : Ai a = true) (hs' : Ai b = true) (ha : Comp (.ex ce false a) m) (hb : Comp (.ex ce false b) n) : Comp (.it ce cap (.Call (.Name x p') [a, b] [] p)) (.range m n (.lit (.int 1))) := fun P R => R.range2 hg hs hs' (ha P R) (hb P R)
theorem Comp.range3  {ce cap x p' a b e p m n k} (hg : ce.glob x = some (.ty "range")) (hs : Ai a = true) (hs' : Ai b = true) (hs'' : Ai e = true) (ha : Comp (.ex ce false a) m) (hb : Comp (.ex ce false b) n) (he : Comp (.ex ce false e) k) : Comp (.it ce cap (.Call (.Name x p') [a, b, e] [] p)) (.range m n k) := fun P R => R.range3 hg hs hs' hs'' (ha P R) (hb P R) (he P R)
theorem Comp.of  {ce cap e m} (hp : plainIt e = true) (h : Comp (.ex ce cap e) m) : Comp (.it ce cap e) m := fun P R => R.of hp (h P R)
section
variable {c : Cx} {d : Nat}
noncomputable def Means (c : Cx) (d : Nat) : Job → ME → Prop
  | .ex ce cap e, m => SE c d ce cap e m ∧ (cap = false → SB c d ce e m)
  | .li ce es, m => SL c d ce es m
  | .al ce cap op es p, m => SE c d ce cap (.BoolOp op es p) m ∧ (cap = false → SAll c d ce op es m)
  | .it ce cap e, m => SI c d ce cap e m ∧ Hc e
  | .ts ce ifs, m => ST c d ce ifs m
theorem both {ce : CE} {cap : Bool} {e : Expr} {m : ME} (ok : c.Ok) (h : SE c d ce cap e m) (he : ∀ (env : Env) (whole : Sem Value), isTrue e env whole = (do let v ← whole; standAt e.pos; holding [v] (PySem.truthy v))) : SE c d ce cap e m ∧ (cap = false → SB c d ce e m) :=
  ⟨h, fun q => by subst q; exact SB.of ok h he⟩
theorem soundE (ok : c.Ok) (hF : ∀ f args r, c.F f args = some r → FnOk c d f args r) {j : Job} {m : ME} (h : Comp j m) : Means c d j m := h _ {
    cNone := both ok (SE.const_none _ _) (fun _ _ => rfl)
    cBool := both ok (SE.const_bool _ _ _) (fun _ _ => rfl)
    cInt := both ok (SE.const_int _ _ _) (fun _ _ => rfl)
    cStr := fun h => both ok (SE.const_str _ _ _ h) (fun _ _ => rfl)
    rd := fun hd hv => both ok (SE.rd _ hd hv) (fun _ _ => rfl)
    var := fun hd hv => both ok (SE.var _ hd hv) (fun _ _ => rfl)
    glob := fun hg => both ok (SE.glob ok _ (Be hg) hg) (fun _ _ => rfl)
    bin := fun ho ia ib => by rw [ho]; exact both ok (SE.bin _ ok ia.1 ib.1) (fun _ _ => rfl)
    not := fun ia => ⟨SE.not ok _ ia.1, fun _ => SB.not _ (ia.2 rfl)⟩
    neg := fun ia => both ok (SE.neg _ ia.1) (fun _ _ => rfl)
    bool := fun ih => ⟨ih.1, fun q => SB.bool _ (ih.2 q)⟩
    one := fun ih => ⟨SE.bool1 _ ih.1, fun q => SAll.one (ih.2 q)⟩
    two := fun {_ _ op _ _ _ _ _ _} ia ib => by
      cases op
      · exact ⟨SE.and ok _ ia.1 ib.1, fun q => SAll.and (ia.2 q) (ib.2 q)⟩
      · exact ⟨SE.or ok _ ia.1 ib.1, fun q => SAll.or (ia.2 q) (ib.2 q)⟩
    isType := fun hg hg' hs ia => ⟨SE.isType ok _ _ _ _ (Be hg) (Be hg') hg hg' hs ia.1, fun _ => SB.isType ok _ _ _ _ (Be hg) (Be hg') hg hg' hs ia.1⟩
    isNone := fun ia => ⟨SE.cmp (op := .isNone) ok _ ia.1 (SE.const_none _ _) rfl (fun _ => rfl), fun _ => SB.cmp (op := .isNone) ok _ ia.1 (SE.const_none _ _) rfl (fun _ => rfl)⟩
    isNotNone := fun ia => ⟨SE.cmp (op := .isNotNone) ok _ ia.1 (SE.const_none _ _) rfl (fun _ => rfl), fun _ => SB.cmp (op := .isNotNone) ok _ ia.1 (SE.const_none _ _) rfl (fun _ => rfl)⟩
    cmp := fun ho hn hm ia ib => by subst ho; exact ⟨SE.cmp ok _ ia.1 ib.1 hm (fun q => absurd q hn), fun _ => SB.cmp ok _ ia.1 ib.1 hm (fun q => absurd q hn)⟩
    list := fun ih => both ok (SE.list _ ih) (fun _ _ => rfl)
    tup := fun ih => both ok (SE.tup _ _ ih) (fun _ _ => rfl)
    nil := SL.nil
    cons := fun hs ia ib => SL.cons hs ia.1 ib
    dict0 := both ok (SE.dict0 ok _) (fun _ _ => rfl)
    sliceTo := fun ia ib => both ok (SE.sliceTo ok _ _ ia.1 ib.1) (fun _ _ => rfl)
    sliceFrom := fun ia ib => both ok (SE.sliceFrom ok _ _ ia.1 ib.1) (fun _ _ => rfl)
    idx := fun ia ib => both ok (SE.idx ok _ ia.1 ib.1) (fun _ _ => rfl)
    call := fun hg hs ih => both ok (SE.call ok hF _ _ (Be hg) hg hs ih) (fun _ _ => rfl)
    f1b := fun hg hf hs ih => both ok (SE.f1b ok _ _ (Be hg) hg hf hs ih.1) (fun _ _ => rfl)
    f1t := fun hg hf hs ih => both ok (SE.f1t ok _ _ (Be hg) hg hf hs ih.1) (fun _ _ => rfl)
    join := fun hm hl hb hs io ia => by subst hm; exact both ok (SE.join ok _ _ hl hb hs io.1 ia.1) (fun _ _ => rfl)
    get := fun hm hl hb hs hs' io ia ib => by subst hm; exact both ok (SE.get ok _ _ hl hb hs hs' io.1 ia.1 ib.1) (fun _ _ => rfl)
    comp := fun ht hsc ii ie iT => both ok (SE.comp ok ht (ScOk.of hsc) ii.2 ii.1 ie.1 iT) (fun _ _ => rfl)
    tNil := ST.nil
    tOne := fun ih => ST.one (ih.2 rfl)
    tChain := fun h₁ h₂ hn₁ hn₂ hm ia ib ie => by subst h₁ h₂; exact ST.one (SE.chain ok _ ia.1 ib.1 ie.1 hm hn₁ hn₂)
    range1 := fun hg hs ia => ⟨SI.range1 ok _ _ (Be hg) hg hs ia.1, fun _ _ => rfl⟩
    range2 := fun hg hs hs' ia ib => ⟨SI.range2 ok _ _ (Be hg) hg hs hs' ia.1 ib.1, fun _ _ => rfl⟩
    range3 := fun hg hs hs' hs'' ia ib ie => ⟨SI.range3 ok _ _ (Be hg) hg hs hs' hs'' ia.1 ib.1 ie.1, fun _ _ => rfl⟩
    of := fun hp ih => ⟨SI.of ok ih.1, plainIt_is hp⟩ }
end
end Mine
end
section
open PySem PyProof.Rows PySem.SeqAt
namespace Mine
set_option tactic.hygienic false
set_option autoImplicit false
abbrev RJ (j : Job) : Type := Option { m : ME // Comp j m }
abbrev RecE : Type := (ce : CE) → (cap : Bool) → (e : Expr) → RJ (.ex ce cap e)
noncomputable def cName (ce : CE) (cap : Bool) (x : Str) (p : Pos) : RJ (.ex ce cap (.Name x p)) :=
  if hd : (x == ("__debug__" : Str)) = false then (match hv : ce.vm.lookup x with
    | some i => (match cap with
      | true => some ⟨.var i, .var hd hv⟩
      | false => some ⟨.rd i, .rd hd hv⟩)
    | none => (match hg : ce.glob x with
      | some .tab => some ⟨.glob x, .glob hg⟩
      | _ => none)) else none
noncomputable def cLi (f : RecE) (ce : CE) : (es : List Expr) → RJ (.li ce es)
  | [] => some ⟨.nil, .nil⟩
  | e :: r => if hs : Ai e = true then (f ce true e).bind fun a => (cLi f ce r).map fun b => ⟨.cons a.1 b.1, .cons hs a.2 b.2⟩ else none
noncomputable def cAl (f : RecE) (ce : CE) (cap : Bool) (op : BoolOp) (p : Pos) : (es : List Expr) → RJ (.al ce cap op es p)
  | [] => none
  | e :: r => (f ce cap e).bind fun a => (match r with
    | [] => some ⟨a.1, .one a.2⟩
    | e' :: r' => (cAl f ce cap op p (e' :: r')).map fun b => ⟨boolM op a.1 b.1, .two a.2 b.2⟩)
noncomputable def cCmpO (f : RecE) (ce : CE) (cap : Bool) (l : Expr) (op : CmpOp) (r : Expr) (p : Pos) : RJ (.ex ce cap (.Compare l [op] [r] p)) :=
  match ho : copOf op with
  | some o => if hm : behindInMarks op r = false then (f ce false l).bind fun a => (f ce false r).map fun b => ⟨.cmp o a.1 b.1, .cmp (cop_of ho).1 (cop_of ho).2 hm a.2 b.2⟩ else none
  | none => none
noncomputable def cCmp (f : RecE) (ce : CE) (cap : Bool) (l : Expr) (op : CmpOp) (r : Expr) (p : Pos) : RJ (.ex ce cap (.Compare l [op] [r] p)) :=
  match op with
  | .Is => (match r with
    | .Constant .none k p' => (f ce false l).map fun a => ⟨_, .isNone a.2⟩
    | .Name t p₃ => (match l with
      | .Call (.Name ty p₁) [x] [] p₂ => if hs : Ai x = true then (match hg : ce.glob ty with
        | some (.ty "type") => (match hg' : ce.glob t with
          | some (.ty tn) => (f ce false x).map fun a => ⟨.isType tn a.1, .isType hg hg' hs a.2⟩
          | _ => none)
        | _ => none) else none
      | _ => none)
    | _ => none)
  | .IsNot => (match r with
    | .Constant .none k p' => (f ce false l).map fun a => ⟨_, .isNotNone a.2⟩
    | r => if hm : behindInMarks .IsNot r = false then (f ce false l).bind fun a => (f ce false r).map fun b => ⟨.cmp .isNotBool a.1 b.1, .cmp rfl (by simp) hm a.2 b.2⟩ else none)
  | op => cCmpO f ce cap l op r p
noncomputable def cSub (f : RecE) (ce : CE) (cap : Bool) (v s : Expr) (p : Pos) : RJ (.ex ce cap (.Subscript v s p)) :=
  (f ce false v).bind fun a => match s with
  | .Slice none (some u) none p' => (f ce false u).map fun b => ⟨.sliceTo a.1 b.1, .sliceTo a.2 b.2⟩
  | .Slice (some u) none none p' => (f ce false u).map fun b => ⟨.sliceFrom a.1 b.1, .sliceFrom a.2 b.2⟩
  | .Slice .. => none
  | s => (f ce false s).map fun b => ⟨.idx a.1 b.1, .idx a.2 b.2⟩
noncomputable def biF (id : String) : Option { g : F1 // fval g = .builtin id } :=
  if h : id = "len" then some ⟨.len, by rw [h]; rfl⟩ else if h : id = "abs" then some ⟨.abs, by rw [h]; rfl⟩ else if h : id = "sum" then some ⟨.sum, by rw [h]; rfl⟩ else if h : id = "ord" then some ⟨.ord, by rw [h]; rfl⟩ else none
noncomputable def tyF (id : String) : Option { g : F1 // fval g = .type id } :=
  if h : id = "str" then some ⟨.str, by rw [h]; rfl⟩ else if h : id = "list" then some ⟨.list, by rw [h]; rfl⟩ else none
noncomputable def cCallN (f : RecE) (ce : CE) (cap : Bool) (x : Str) (p' : Pos) (args : List Expr) (p : Pos) : RJ (.ex ce cap (.Call (.Name x p') args [] p)) :=
  match hg : ce.glob x with
  | some (.fn i fr) => (match args with
    | e :: r => if hs : Ai e = true then (cLi f ce (e :: r)).map fun m => ⟨.call i m.1, .call hg hs m.2⟩ else none
    | [] => none)
  | some (.bi id) => (match args with
    | [e] => if hs : Ai e = true then (biF id).bind fun g => (f ce false e).map fun m => ⟨.f1 g.1 m.1, .f1b hg g.2 hs m.2⟩ else none
    | _ => none)
  | some (.ty id) => (match args with
    | [e] => if hs : Ai e = true then (tyF id).bind fun g => (f ce false e).map fun m => ⟨.f1 g.1 m.1, .f1t hg g.2 hs m.2⟩ else none
    | _ => none)
  | _ => none
noncomputable def cCallA (f : RecE) (ce : CE) (cap : Bool) (o : Expr) (meth : Str) (apos : Pos) (args : List Expr) (p : Pos) : RJ (.ex ce cap (.Call (.Attribute o meth apos) args [] p)) :=
  if hl : (apos.endLine == p.line) = true then if hb : Jq o = false then (f ce false o).bind fun x => (match args with
    | [a] => if hs : Ai a = true then if hm : meth = ("join" : Str) then (f ce false a).map fun y => ⟨.join x.1 y.1, .join hm hl hb hs x.2 y.2⟩ else none else none
    | [a, b] => if hs : Ai a = true then if hs' : Ai b = true then if hm : meth = ("get" : Str) then (f ce false a).bind fun y => (f ce false b).map fun z => ⟨.get x.1 y.1 z.1, .get hm hl hb hs hs' x.2 y.2 z.2⟩ else none else none else none
    | _ => none) else none else none
noncomputable def itOf (f : RecE) (ce : CE) (cap : Bool) (e : Expr) : RJ (.it ce cap e) := if hp : plainIt e = true then (f ce cap e).map fun m => ⟨m.1, .of hp m.2⟩ else none
noncomputable def cIt (f : RecE) (ce : CE) (cap : Bool) (e : Expr) : RJ (.it ce cap e) := match e with
  | .Call (.Name x p') args [] p => (match hg : ce.glob x with
    | some (.ty "range") => (match args with
      | [a] => if hs : Ai a = true then (f ce false a).map fun m => ⟨_, .range1 hg hs m.2⟩ else none
      | [a, b] => if hs : Ai a = true then if hs' : Ai b = true then (f ce false a).bind fun m => (f ce false b).map fun n => ⟨_, .range2 hg hs hs' m.2 n.2⟩ else none else none
      | [a, b, e] => if hs : Ai a = true then if hs' : Ai b = true then if hs'' : Ai e = true then (f ce false a).bind fun m => (f ce false b).bind fun n => (f ce false e).map fun k => ⟨_, .range3 hg hs hs' hs'' m.2 n.2 k.2⟩ else none else none else none
      | _ => none)
    | _ => itOf f ce cap (.Call (.Name x p') args [] p))
  | e => itOf f ce cap e
noncomputable def cTs (f : RecE) (ce : CE) (ifs : List Expr) : RJ (.ts ce ifs) := match ifs with
  | [] => some ⟨_, .tNil⟩
  | [t] => (match t with
    | .Compare l [q₁, q₂] [r₁, r₂] p => (match h₁ : copOf q₁ with
      | some o₁ => (match h₂ : copOf q₂ with
        | some o₂ => if hm : behindInMarks q₂ r₂ = false then (f ce false l).bind fun a => (f ce false r₁).bind fun b => (f ce false r₂).map fun e => ⟨.chain o₁ o₂ a.1 b.1 e.1, .tChain (cop_of h₁).1 (cop_of h₂).1 (cop_of h₁).2 (cop_of h₂).2 hm a.2 b.2 e.2⟩ else none
        | none => none)
      | none => none)
    | t => (f ce false t).map fun m => ⟨m.1, .tOne m.2⟩)
  | _ => none
noncomputable def cComp (f : RecE) (ce : CE) (cap : Bool) (elt tgt iter : Expr) (ifs : List Expr) (scope : Scope) (p : Pos) : RJ (.ex ce cap (.ListComp elt [⟨tgt, iter, ifs, 0⟩] scope p)) :=
  match ht : Bf tgt with
  | some xs => if hsc : Eg ce.scope scope xs = true then (cIt f ce false iter).bind fun mi => (f (Bc ce scope xs) true elt).bind fun me => (cTs f (Bc ce scope xs) ifs).map fun mt => ⟨_, .comp ht hsc mi.2 me.2 mt.2⟩ else none
  | none => none
noncomputable def Ew : Nat → RecE
  | 0, _, _, _ => none
  | n + 1, ce, cap, e => match e with
    | .Constant k kk p => (match k with
      | .none => some ⟨_, .cNone⟩
      | .bool b => some ⟨_, .cBool⟩
      | .int i => some ⟨_, .cInt⟩
      | .str s => if h : s.cps.size ≤ LIM then some ⟨_, .cStr h⟩ else none
      | _ => none)
    | .Name x p => cName ce cap x p
    | .BinOp l op r p => (match ho : bopOf op with
      | some o => (Ew n ce false l).bind fun a => (Ew n ce false r).map fun b => ⟨.bin o a.1 b.1, .bin (bop_of ho) a.2 b.2⟩
      | none => none)
    | .UnaryOp .Not x p => (Ew n ce false x).map fun a => ⟨.not a.1, .not a.2⟩
    | .UnaryOp .USub x p => (Ew n ce false x).map fun a => ⟨.neg a.1, .neg a.2⟩
    | .BoolOp op es p => (cAl (Ew n) ce cap op p es).map fun a => ⟨a.1, .bool a.2⟩
    | .Compare l [op] [r] p => cCmp (Ew n) ce cap l op r p
    | .List es p => (cLi (Ew n) ce es).map fun m => ⟨.list m.1, .list m.2⟩
    | .Tuple es k p => (cLi (Ew n) ce es).map fun m => ⟨.tup m.1, .tup m.2⟩
    | .Dict [] [] p => some ⟨.dict0, .dict0⟩
    | .Subscript v s p => cSub (Ew n) ce cap v s p
    | .Call (.Name x p') args [] p => cCallN (Ew n) ce cap x p' args p
    | .Call (.Attribute o meth apos) args [] p => cCallA (Ew n) ce cap o meth apos args p
    | .ListComp elt [⟨tgt, iter, ifs, 0⟩] scope p => cComp (Ew n) ce cap elt tgt iter ifs scope p
    | _ => none
end Mine
end
section
open PySem PyProof.Rows PySem.SeqAt
namespace Mine
set_option tactic.hygienic false
set_option autoImplicit false
noncomputable def mine (env : Env) (ow : Nat → Option Addr) (b : Addr) : Prop := b = env.locals ∨ (∃ x, env.cells.lookup x = some b) ∨ ∃ i, ow i = some b
noncomputable def ND (h : Heap) (a : Addr) : Prop := ∃ o, h.get? a = some o ∧ o.dict = none
theorem ND.kp {fs : List Addr} {h h' : Heap} {a : Addr} (x : ND h a) (k : Kp fs h h') : ND h' a := by
  obtain ⟨o, e, d⟩ := x
  obtain ⟨_, sl, e'⟩ := k a o e
  exact ⟨_, e', d⟩
theorem ND.at {h h' : Heap} {a : Addr} (x : ND h a) (k : ∀ o, h.get? a = some o → h'.get? a = some o) : ND h' a := let ⟨o, e, d⟩ := x; ⟨o, k o e, d⟩
abbrev Ar (env : Env) (ob : Addr → Prop) (ow : Nat → Option Addr) : Addr → Prop := fun b => ob b ∨ mine env ow b
inductive OwnV (c : Cx) (ce : CE) (env : Env) (bad : Addr → Prop) (ow : Nat → Option Addr) (h : Heap) (i : Nat) (av : AV) : Prop where
  | mk (x : Str) (a : Addr) (e : ce.vm.lookup x = some i) (l : Ho env h x (.ref a)) (o : ow i = some a) (n : ce.ap.contains i = true → ND h a) (d : DenT c h bad av (.ref a))
structure Act (c : Cx) (A : Around) (ce : CE) (env : Env) (ob : Addr → Prop) (σ : St) (ow : Nat → Option Addr) (h : Heap) : Prop where
  ev : EVis c A ce env σ (Ar env ob ow) h
  ns : ∃ m, h.Ns env.locals m
  kinds : ∀ x i, ce.vm.lookup x = some i → env.kindOf x = some .local ∨ (env.kindOf x = some .cell ∧ ∃ a v, env.cells.lookup x = some a ∧ h.IsCell a v)
  inj : ∀ x y i, ce.vm.lookup x = some i → ce.vm.lookup y = some i → x = y
  cells : ∀ x y a, env.cells.lookup x = some a → env.cells.lookup y = some a → x = y
  cellL : ∀ x a, env.cells.lookup x = some a → a ≠ env.locals
  own : ∀ i av, σ[i]? = some (some (true, av)) → OwnV c ce env (Ar env ob ow) ow h i av
  ow1 : ∀ i a, ow i = some a → (∃ av, σ[i]? = some (some (true, av))) ∧ ¬ ob a ∧ a ≠ env.locals ∧ ∀ x, env.cells.lookup x ≠ some a
  ow2 : ∀ i j a, ow i = some a → ow j = some a → i = j
  fsIn : ∀ b ∈ Ac A, ob b ∨ b = env.locals
  obN : ∀ b, (b = env.locals ∨ ∃ x, env.cells.lookup x = some b) → ¬ ob b
  top : (∃ outer, A.frames = some (env :: outer)) ∧ env.frame = some env.locals
structure Rel (fs : List Addr) (mi mi' : Addr → Prop) (h h' : Heap) : Prop where
  keep : ∀ b o, ¬ mi b → h.get? b = some o → (b ∉ fs → h'.get? b = some o) ∧ ∃ sl, h'.get? b = some { o with slots := sl }
  nb : ∀ b, ¬ mi b → h.get? b ≠ none → ¬ mi' b
  dom : ∀ b, h.get? b ≠ none → h'.get? b ≠ none
inductive RelS (fs : List Addr) (mi mi' : Addr → Prop) (s s' : Shared) : Prop where
  | mk0 (h' : Heap) (tk : Nat) (e : s' = { s with heap := h', toks := tk }) (r : Rel fs mi mi' s.heap h')
section
variable {fs : List Addr} {mi mi' mi'' : Addr → Prop} {h h' h'' : Heap} {s s' s'' : Shared}
theorem Rel.trans (x : Rel fs mi mi' h h') (y : Rel fs mi' mi'' h' h'') : Rel fs mi mi'' h h'' where
  keep := fun b o hb e => by
    have n := x.nb b hb (by first | exact nn (e) | (rw [e]; simp))
    obtain ⟨x1, sl, x2⟩ := x.keep b o hb e
    obtain ⟨_, sl', y2⟩ := y.keep b _ n x2
    exact ⟨fun hf => (y.keep b o n (x1 hf)).1 hf, sl', y2⟩
  nb := fun b hb e => y.nb b (x.nb b hb e) (x.dom b e)
  dom := fun b e => y.dom b (x.dom b e)
theorem Rel.kp (k : Kp fs h h') : Rel fs mi mi h h' := ⟨fun b o _ e => k b o e, fun _ hb _ => hb, fun _ e => k.stay e⟩
theorem RelS.refl : RelS fs mi mi s s := ⟨s.heap, s.toks, rfl, Rel.kp (.refl _ _)⟩
theorem RelS.trans (x : RelS fs mi mi' s s') (y : RelS fs mi' mi'' s' s'') : RelS fs mi mi'' s s'' := by
  obtain ⟨h, tk, rfl, k⟩ := x
  obtain ⟨h', tk', rfl, k'⟩ := y
  exact ⟨h', tk', rfl, k.trans k'⟩
theorem RelS.kp (k : KpS fs s s') : RelS fs mi mi s s' := by
  obtain ⟨h, tk, rfl, k⟩ := k
  exact ⟨h, tk, rfl, .kp k⟩
theorem RelS.heap (x : RelS fs mi mi' s s') : Rel fs mi mi' s.heap s'.heap := by
  obtain ⟨h, tk, rfl, k⟩ := x; exact k
theorem Rel.less (hm : ∀ b, mi' b → mi b) : Rel fs mi mi' h h := ⟨fun b o _ e => ⟨fun _ => e, o.slots, e⟩, fun b hb _ q => hb (hm b q), fun _ e => e⟩
end
section
variable {c : Cx} {A : Around} {ce : CE} {env : Env} {ob : Addr → Prop} {σ : St} {ow : Nat → Option Addr} {h h' : Heap}
theorem Act.mineThere (a : Act c A ce env ob σ ow h) {b : Addr} (hb : mine env ow b) : h.get? b ≠ none := a.ev.badD b (.inr hb)
theorem Act.kp (a : Act c A ce env ob σ ow h) (k : Kp (Ac A) h h') : Act c A ce env ob σ ow h' where
  ev := a.ev.kp k
  ns := let ⟨m, n⟩ := a.ns; ⟨m, k.ns n⟩
  kinds := fun x i e => by
    rcases a.kinds x i e with q | ⟨q, ad, v, e1, e2⟩
    · exact .inl q
    · exact .inr ⟨q, ad, v, e1, k.isCell e2⟩
  inj := a.inj
  cells := a.cells
  cellL := a.cellL
  own := fun i av e => by
    obtain ⟨x, ad, e1, l, e2, nd, d⟩ := a.own i av e
    have hn : ad ∉ Ac A := fun q => by
      rcases a.fsIn ad q with q | q
      · exact (a.ow1 i ad e2).2.1 q
      · exact (a.ow1 i ad e2).2.2.1 q
    exact ⟨x, ad, e1, l.kp k, e2, fun z => (nd z).kp k, DenT.carryTop (.kp k a.ev.fsb) _ _ d fun b o q e => by cases q; exact (k _ o e).1 hn⟩
  ow1 := a.ow1
  ow2 := a.ow2
  fsIn := a.fsIn
  obN := a.obN
  top := a.top
theorem Act.kpS {s s' : Shared} (a : Act c A ce env ob σ ow s.heap) (k : KpS (Ac A) s s') : Act c A ce env ob σ ow s'.heap := a.kp k.heap
theorem Act.weaken {ob' : Addr → Prop} (a : Act c A ce env ob' σ ow h) (hb : ∀ b, ob b → ob' b) (hf : ∀ b ∈ Ac A, ob b ∨ b = env.locals) : Act c A ce env ob σ ow h := by
  have hbad : ∀ b, Ar env ob ow b → Ar env ob' ow b := fun b q => q.elim (fun q => .inl (hb b q)) .inr
  have cy : Eo h h (Ar env ob' ow) (Ar env ob ow) := ⟨fun _ _ _ e => e, fun b q _ q' => q (hbad b q')⟩
  exact {
    ev := { a.ev with
      badG := fun b q => a.ev.badG b (hbad b q)
      badD := fun b q => a.ev.badD b (hbad b q)
      fsb := fun b q => (hf b q).elim .inl fun e => .inr (.inl e)
      var := fun x i own av e1 e2 => by
        obtain ⟨v, l, d, n⟩ := a.ev.var x i own av e1 e2
        exact ⟨v, l, ⟨DenT.carryTop cy _ _ d.1 fun _ _ _ e => e, d.2⟩, fun ho ad e q => n ho ad e (hbad ad q)⟩ }
    ns := a.ns
    kinds := a.kinds
    inj := a.inj
    cells := a.cells
    cellL := a.cellL
    own := fun i av e => by
      obtain ⟨x, ad, e1, l, e2, nd, d⟩ := a.own i av e
      exact ⟨x, ad, e1, l, e2, nd, DenT.carryTop cy _ _ d fun _ _ _ e => e⟩
    ow1 := fun i ad e => let ⟨h1, h2, h3⟩ := a.ow1 i ad e; ⟨h1, fun q => h2 (hb ad q), h3⟩
    ow2 := a.ow2
    fsIn := hf
    obN := fun b q q' => a.obN b q (hb b q')
    top := a.top }
theorem Act.more {h₁ : Heap} {ob' : Addr → Prop} (a : Act c A ce env ob σ ow h₁) (k : Kp (Ac A) h₁ h) (hb : ∀ b, ob b → ob' b) (hn : ∀ b, ob' b → h₁.get? b ≠ none → ob b) (hd : ∀ b, ob' b → h.get? b ≠ none) : Act c A ce env ob' σ ow h := by
  have hbad : ∀ b, Ar env ob ow b → Ar env ob' ow b := fun b q => q.elim (fun q => .inl (hb b q)) .inr
  have hback : ∀ b, h₁.get? b ≠ none → Ar env ob' ow b → Ar env ob ow b := fun b e q => q.elim (fun q => .inl (hn b q e)) .inr
  have cy : Eo h₁ h (Ar env ob ow) (Ar env ob' ow) := ⟨fun b o hb' e => (k b o e).1 fun q => hb' (a.ev.fsb b q), fun b q e q' => q (hback b e q')⟩
  have a' := a.kp k
  exact {
    ev := { a'.ev with
      badG := fun b q => by
        cases e : c.hG.get? b with
        | none => rfl
        | some o => rw [← e]; exact a.ev.badG b (hback b (by first | exact nn (a.ev.ground b o e) | (rw [a.ev.ground b o e]; simp)) q)
      badD := fun b q => q.elim (hd b) fun q => a'.ev.badD b (.inr q)
      fsb := fun b q => hbad b (a.ev.fsb b q)
      var := fun x i own av e1 e2 => by
        obtain ⟨v, l, d, n⟩ := a.ev.var x i own av e1 e2
        have top : ∀ ad, v = .ref ad → h₁.get? ad ≠ none := fun ad e => by subst e; exact DenT.there av ad d.1
        exact ⟨v, l.kp k, ⟨DenT.carryTop cy _ _ d.1 fun ad o e q => (k ad o q).1 (d.2 ad e), d.2⟩, fun ho ad e q => n ho ad e (hback ad (top ad e) q)⟩ }
    ns := a'.ns
    kinds := a'.kinds
    inj := a.inj
    cells := a.cells
    cellL := a.cellL
    own := fun i av e => by
      obtain ⟨x, ad, e1, l, e2, nd, d⟩ := a.own i av e
      have hnf : ad ∉ Ac A := fun q => by
        rcases a.fsIn ad q with q | q
        · exact (a.ow1 i ad e2).2.1 q
        · exact (a.ow1 i ad e2).2.2.1 q
      exact ⟨x, ad, e1, l.kp k, e2, fun z => (nd z).kp k, DenT.carryTop cy _ _ d fun b o q e => by cases q; exact (k _ o e).1 hnf⟩
    ow1 := fun i ad e => let ⟨h1, h2, h3⟩ := a.ow1 i ad e; ⟨h1, fun q => h2 (hn ad q (a.mineThere (.inr (.inr ⟨i, e⟩)))), h3⟩
    ow2 := a.ow2
    fsIn := fun b q => (a.fsIn b q).imp (hb b) id
    obN := fun b q q' => a.obN b q (hn b q' (a.mineThere (q.elim .inl fun q => .inr (.inl q))))
    top := a.top }
noncomputable def Hj (ow : Nat → Option Addr) (i : Nat) : Nat → Option Addr := fun j => if j = i then none else ow j
theorem owFree_less {ow : Nat → Option Addr} {i : Nat} : ∀ b, mine env (Hj ow i) b → mine env ow b := fun b q => by
  rcases q with q | q | ⟨j, q⟩
  · exact .inl q
  · exact .inr (.inl q)
  · unfold Hj at q; split at q
    · cases q
    · exact .inr (.inr ⟨j, q⟩)
set_option tactic.hygienic true in
theorem freeze_get {σ : St} {i j : Nat} {own : Bool} {av : AV} (e : (freeze σ i)[j]? = some (some (own, av))) : ∃ own', σ[j]? = some (some (own', av)) ∧ (j = i → own = false) ∧ (j ≠ i → own = own') := by
  unfold freeze at e
  split at e
  · rename_i o v q
    rw [List.getElem?_set] at e
    split at e
    · rename_i hji; subst hji
      split at e
      · cases e; exact ⟨o, q, fun _ => rfl, fun h => absurd rfl h⟩
      · cases e
    · rename_i hji
      exact ⟨own, e, fun h => absurd h.symm hji, fun _ => rfl⟩
  · rename_i q
    refine ⟨own, e, fun hji => ?_, fun _ => rfl⟩
    subst hji
    exact absurd e (q _ _)
theorem freeze_length {σ : St} {i : Nat} : (freeze σ i).length = σ.length := by
  unfold freeze; split <;> simp
set_option tactic.hygienic true in
theorem Act.freeze (a : Act c A ce env ob σ ow h) (i : Nat) : Act c A ce env ob (freeze σ i) (Hj ow i) h := by
  have hbad : ∀ b, Ar env ob (Hj ow i) b → Ar env ob ow b := fun b q => q.imp id (owFree_less b)
  have cy : Eo h h (Ar env ob ow) (Ar env ob (Hj ow i)) := ⟨fun _ _ _ e => e, fun b q _ q' => q (hbad b q')⟩
  have clean : ∀ ad, ow i = some ad → ¬ Ar env ob (Hj ow i) ad := fun ad e q => by
    obtain ⟨_, h2, h3, h4⟩ := a.ow1 i ad e
    rcases q with q | q | ⟨x, q⟩ | ⟨j, q⟩
    · exact h2 q
    · exact h3 q
    · exact h4 x q
    · unfold Hj at q; split at q
      · cases q
      · rename_i hne; exact hne (a.ow2 j i ad q e)
  exact {
    ev := { a.ev with
      badG := fun b q => a.ev.badG b (hbad b q)
      badD := fun b q => a.ev.badD b (hbad b q)
      fsb := fun b q => (a.fsIn b q).elim .inl fun e => .inr (.inl e)
      n := by rw [freeze_length]; exact a.ev.n
      var := fun x j own av e1 e2 => by
        obtain ⟨own', e3, e4, e5⟩ := freeze_get e2
        by_cases hj : j = i
        · subst hj
          cases own' with
          | false =>
            obtain ⟨v, l, d, n⟩ := a.ev.var x j false av e1 e3
            exact ⟨v, l, ⟨DenT.carryTop cy _ _ d.1 fun _ _ _ e => e, d.2⟩, fun ho ad e q => n rfl ad e (hbad ad q)⟩
          | true =>
            obtain ⟨y, ad, f1, l, f2, nd, d⟩ := a.own j av e3
            have : x = y := a.inj x y j e1 f1
            subst this
            refine ⟨.ref ad, l, ⟨DenT.carryTop cy _ _ d fun _ _ _ e => e, fun b e q => ?_⟩, fun _ b e q => ?_⟩
            · cases e
              rcases a.fsIn _ q with q | q
              · exact (a.ow1 j _ f2).2.1 q
              · exact (a.ow1 j _ f2).2.2.1 q
            · cases e; exact clean _ f2 q
        · have := e5 hj; subst this
          obtain ⟨v, l, d, n⟩ := a.ev.var x j own av e1 e3
          exact ⟨v, l, ⟨DenT.carryTop cy _ _ d.1 fun _ _ _ e => e, d.2⟩, fun ho ad e q => n ho ad e (hbad ad q)⟩ }
    ns := a.ns
    kinds := a.kinds
    inj := a.inj
    cells := a.cells
    cellL := a.cellL
    own := fun j av e => by
      obtain ⟨own', e3, e4, e5⟩ := freeze_get e
      have hj : j ≠ i := fun q => by have := e4 q; cases this
      have := e5 hj; subst this
      obtain ⟨x, ad, e1, l, e2, nd, d⟩ := a.own j av e3
      exact ⟨x, ad, e1, l, by unfold Hj; rw [if_neg hj]; exact e2, nd, DenT.carryTop cy _ _ d fun _ _ _ e => e⟩
    ow1 := fun j ad e => by
      unfold Hj at e
      split at e
      · cases e
      · rename_i hj
        obtain ⟨⟨av, h1⟩, h2⟩ := a.ow1 j ad e
        refine ⟨⟨av, ?_⟩, h2⟩
        unfold Mine.freeze
        split
        · rw [List.getElem?_set_ne (fun q => hj q.symm)]; exact h1
        · exact h1
    ow2 := fun j k ad e1 e2 => by
      unfold Hj at e1 e2
      split at e1
      · cases e1
      · split at e2
        · cases e2
        · exact a.ow2 j k ad e1 e2
    fsIn := a.fsIn
    obN := a.obN
    top := a.top }
end
end Mine
end
section
open PySem PyProof.Rows PySem.SeqAt
namespace Mine
set_option tactic.hygienic false
set_option autoImplicit false
mutual
noncomputable def sz : AV → Nat
  | .ilist xs => 1 + xs.length
  | .list xs => 1 + szs xs
  | .tup xs => 1 + szs xs
  | _ => 1
noncomputable def szs : List AV → Nat
  | [] => 0
  | x :: r => sz x + szs r
end
section
variable {c : Cx} {h : Heap} {bad bad' : Addr → Prop}
theorem Gy {h : Heap} {a : Addr} {vs ws : List Value} (x : h.IsList a vs.toArray) (y : h.IsList a ws.toArray) : vs = ws := by
  obtain ⟨o, ho, _, n, hd⟩ := x
  obtain ⟨o', ho', _, n', hd'⟩ := y
  rw [ho] at ho'; cases ho'
  rw [hd] at hd'
  injection hd' with e _
  exact List.toArray_inj e
theorem isTuple_unique {h : Heap} {a : Addr} {vs ws : List Value} (x : h.IsTuple a vs.toArray) (y : h.IsTuple a ws.toArray) : vs = ws := by
  obtain ⟨o, ho, _, n, hd⟩ := x
  obtain ⟨o', ho', _, n', hd'⟩ := y
  rw [ho] at ho'; cases ho'
  rw [hd] at hd'
  injection hd' with e _
  exact List.toArray_inj e
theorem Gd {h : Heap} {a : Addr} {vs ws : List Value} (x : h.IsList a vs.toArray) (y : h.IsTuple a ws.toArray) : False := by
  obtain ⟨o, ho, hc, _⟩ := x
  obtain ⟨o', ho', hc', _⟩ := y
  rw [ho] at ho'; cases ho'
  rw [hc] at hc'
  exact absurd hc' (by decide)
theorem szI : ∀ {xs : List Int} {ys : List AV} {vs : List Value}, DenI xs vs → DenL c h bad ys vs → szs ys = xs.length
  | [], ys, vs, hx, hy => by
    simp only [DenI] at hx; subst hx
    cases ys with
    | nil => rfl
    | cons y r => simp only [DenL] at hy; obtain ⟨_, _, e, _, _⟩ := hy; cases e
  | x :: r, ys, vs, hx, hy => by
    simp only [DenI] at hx
    obtain ⟨t, w, rfl, hr⟩ := hx
    cases ys with
    | nil => simp [DenL] at hy
    | cons y q =>
      simp only [DenL] at hy
      obtain ⟨v, t', e, ⟨hd, _⟩, hr'⟩ := hy
      cases e
      have : sz y = 1 := by
        cases y <;> simp only [DenT] at hd <;> first | rfl | (obtain ⟨a, vs, e, _⟩ := hd; cases e)
      simp only [szs, this, szI hr hr', List.length_cons]; exact Nat.add_comm _ _
theorem Jx {y : AV} {a : Addr} (hy : DenT c h bad y (.ref a)) :
    (∃ xs vs, y = .ilist xs ∧ h.IsList a (List.toArray vs) ∧ DenI xs vs) ∨ (∃ xs vs, y = .list xs ∧ h.IsList a (List.toArray vs) ∧ DenL c h bad xs vs) ∨
    (∃ xs vs, y = .tup xs ∧ h.IsTuple a (List.toArray vs) ∧ DenL c h bad xs vs) ∨ (∃ es kvs, y = .dict es ∧ h.DictOf (intKind c.prog c.w) a kvs) := by
  cases y with
  | none => simp [DenT] at hy
  | bool b => simp [DenT] at hy
  | int i => simp [DenT] at hy
  | str s => simp [DenT] at hy
  | ilist xs => simp only [DenT] at hy; obtain ⟨_, vs, e, hl, _, hd⟩ := hy; cases e; exact .inl ⟨_, vs, rfl, hl, hd⟩
  | list xs => simp only [DenT] at hy; obtain ⟨_, vs, e, hl, _, hd⟩ := hy; cases e; exact .inr (.inl ⟨_, vs, rfl, hl, hd⟩)
  | tup xs => simp only [DenT] at hy; obtain ⟨_, vs, e, hl, _, hd⟩ := hy; cases e; exact .inr (.inr (.inl ⟨_, vs, rfl, hl, hd⟩))
  | dict es => simp only [DenT] at hy; obtain ⟨_, vs, e, hl, _⟩ := hy; cases e; exact .inr (.inr (.inr ⟨_, vs, rfl, hl⟩))
theorem Gx {kvs : List (Int × Value)} {a : Addr} {vs : List Value} (x : h.IsList a vs.toArray) (y : h.DictOf (intKind c.prog c.w) a kvs) : False := by
  obtain ⟨o, ho, _, n, hd⟩ := x
  obtain ⟨o', es, ep, ho', _, hd', _⟩ := y
  rw [ho] at ho'; cases ho'
  rw [hd] at hd'; cases hd'
theorem Ji {kvs : List (Int × Value)} {a : Addr} {vs : List Value} (x : h.IsTuple a vs.toArray) (y : h.DictOf (intKind c.prog c.w) a kvs) : False := by
  obtain ⟨o, ho, _, n, hd⟩ := x
  obtain ⟨o', es, ep, ho', _, hd', _⟩ := y
  rw [ho] at ho'; cases ho'
  rw [hd] at hd'; cases hd'
theorem noref_sz {y : AV} {v : Value} (hv : ∀ a, v ≠ .ref a) (hy : DenT c h bad y v) : sz y = 1 := by
  cases y with
  | ilist xs => simp only [DenT] at hy; obtain ⟨a, vs, e, _⟩ := hy; exact absurd e (hv a)
  | list xs => simp only [DenT] at hy; obtain ⟨a, vs, e, _⟩ := hy; exact absurd e (hv a)
  | tup xs => simp only [DenT] at hy; obtain ⟨a, vs, e, _⟩ := hy; exact absurd e (hv a)
  | _ => rfl
mutual
theorem sz_eq : ∀ (x y : AV) (v : Value), DenT c h bad x v → DenT c h bad' y v → sz x = sz y
  | .none, y, v, hx, hy => by
    simp only [DenT] at hx; subst hx
    rw [noref_sz (by intro a e; cases e) hy]; rfl
  | .bool b, y, v, hx, hy => by
    simp only [DenT] at hx; subst hx
    rw [noref_sz (by intro a e; cases e) hy]; rfl
  | .int i, y, v, hx, hy => by
    simp only [DenT] at hx; obtain ⟨t, rfl⟩ := hx
    rw [noref_sz (by intro a e; cases e) hy]; rfl
  | .str s, y, v, hx, hy => by
    simp only [DenT] at hx; obtain ⟨_, t, rfl⟩ := hx
    rw [noref_sz (by intro a e; cases e) hy]; rfl
  | .ilist xs, y, v, hx, hy => by
    simp only [DenT] at hx; obtain ⟨a, vs, rfl, hl, _, hd⟩ := hx
    rcases Jx hy with ⟨ys, ws, rfl, hl', hd'⟩ | ⟨ys, ws, rfl, hl', hd'⟩ | ⟨ys, ws, rfl, hl', hd'⟩ | ⟨es, kvs, rfl, hl'⟩
    · have := Gy hl hl'; subst this
      simp only [sz]; rw [← hd.length, ← hd'.length]
    · have := Gy hl hl'; subst this
      simp only [sz]; rw [szI hd hd']
    · exact (Gd hl hl').elim
    · exact (Gx hl hl').elim
  | .list xs, y, v, hx, hy => by
    simp only [DenT] at hx; obtain ⟨a, vs, rfl, hl, _, hd⟩ := hx
    rcases Jx hy with ⟨ys, ws, rfl, hl', hd'⟩ | ⟨ys, ws, rfl, hl', hd'⟩ | ⟨ys, ws, rfl, hl', hd'⟩ | ⟨es, kvs, rfl, hl'⟩
    · have := Gy hl hl'; subst this
      simp only [sz]; rw [szI hd' hd]
    · have := Gy hl hl'; subst this
      simp only [sz]; rw [szs_eq xs _ vs hd hd']
    · exact (Gd hl hl').elim
    · exact (Gx hl hl').elim
  | .tup xs, y, v, hx, hy => by
    simp only [DenT] at hx; obtain ⟨a, vs, rfl, hl, _, hd⟩ := hx
    rcases Jx hy with ⟨ys, ws, rfl, hl', hd'⟩ | ⟨ys, ws, rfl, hl', hd'⟩ | ⟨ys, ws, rfl, hl', hd'⟩ | ⟨es, kvs, rfl, hl'⟩
    · exact (Gd hl' hl).elim
    · exact (Gd hl' hl).elim
    · have := isTuple_unique hl hl'; subst this
      simp only [sz]; rw [szs_eq xs _ vs hd hd']
    · exact (Ji hl hl').elim
  | .dict es, y, v, hx, hy => by
    simp only [DenT] at hx; obtain ⟨a, vs, rfl, hl, _⟩ := hx
    rcases Jx hy with ⟨ys, ws, rfl, hl', hd'⟩ | ⟨ys, ws, rfl, hl', hd'⟩ | ⟨ys, ws, rfl, hl', hd'⟩ | ⟨es, kvs, rfl, hl'⟩
    · exact (Gx hl' hl).elim
    · exact (Gx hl' hl).elim
    · exact (Ji hl' hl).elim
    · rfl
theorem szs_eq : ∀ (xs ys : List AV) (vs : List Value), DenL c h bad xs vs → DenL c h bad' ys vs → szs xs = szs ys
  | [], ys, vs, hx, hy => by
    simp only [DenL] at hx; subst hx
    cases ys with
    | nil => rfl
    | cons y r => simp only [DenL] at hy; obtain ⟨_, _, e, _, _⟩ := hy; cases e
  | x :: r, ys, vs, hx, hy => by
    simp only [DenL] at hx
    obtain ⟨v, t, rfl, ⟨hd, _⟩, hr⟩ := hx
    cases ys with
    | nil => simp [DenL] at hy
    | cons y q =>
      simp only [DenL] at hy
      obtain ⟨v', t', e, ⟨hd', _⟩, hr'⟩ := hy
      cases e
      simp only [szs]; rw [sz_eq x y v hd hd', szs_eq r q t hr hr']
end
mutual
theorem den_but {a : Addr} {n : Nat} (hn : ∀ y, DenT c h bad y (.ref a) → sz y = n) : ∀ (x : AV) (v : Value), sz x ≤ n → DenT c h bad x v → DenT c h (fun b => bad b ∨ b = a) x v
  | .none, _, _, e => by simpa only [DenT] using e
  | .bool b, _, _, e => by simpa only [DenT] using e
  | .int i, _, _, e => by simpa only [DenT] using e
  | .str x, _, _, e => by simpa only [DenT] using e
  | .ilist xs, v, _, e => by simpa only [DenT] using e
  | .list xs, v, hs, e => by
    simp only [DenT] at e ⊢
    obtain ⟨p, vs, rfl, hl, hz, hd⟩ := e
    exact ⟨p, vs, rfl, hl, hz, den_buts hn xs vs (by simp only [sz] at hs; lia) hd⟩
  | .tup xs, v, hs, e => by
    simp only [DenT] at e ⊢
    obtain ⟨p, vs, rfl, hl, hz, hd⟩ := e
    exact ⟨p, vs, rfl, hl, hz, den_buts hn xs vs (by simp only [sz] at hs; lia) hd⟩
  | .dict es, v, _, e => by simpa only [DenT] using e
theorem den_buts {a : Addr} {n : Nat} (hn : ∀ y, DenT c h bad y (.ref a) → sz y = n) : ∀ (xs : List AV) (vs : List Value), szs xs < n → DenL c h bad xs vs → DenL c h (fun b => bad b ∨ b = a) xs vs
  | [], vs, _, e => by simpa only [DenL] using e
  | x :: r, vs, hs, e => by
    simp only [DenL] at e ⊢
    obtain ⟨v, t, rfl, ⟨hd, hb⟩, hr⟩ := e
    simp only [szs] at hs
    refine ⟨v, t, rfl, ⟨den_but hn x v (by lia) hd, fun b e q => ?_⟩, den_buts hn r t (by lia) hr⟩
    rcases q with q | rfl
    · exact hb b e q
    · subst e; have := hn x hd; lia
end
theorem den_self {x : AV} {a : Addr} (d : DenT c h bad x (.ref a)) : DenT c h (fun b => bad b ∨ b = a) x (.ref a) :=
  den_but (n := sz x) (fun y hy => sz_eq y x _ hy d) x _ (Nat.le_refl _) d
end
end Mine
end
section
open PySem PyProof.Rows PySem.SeqAt
namespace Mine
set_option tactic.hygienic false
set_option autoImplicit false
structure Put (ce : CE) (env : Env) (h h' : Heap) (x : Str) (v : Value) : Prop where
  at' : ∃ t, (t = env.locals ∨ ∃ y, env.cells.lookup y = some t) ∧ (∀ b o, b ≠ t → h.get? b = some o → h'.get? b = some o) ∧ h'.get? t ≠ none
  here : Ho env h' x v
  there : ∀ y i u, y ≠ x → ce.vm.lookup y = some i → Ho env h y u → Ho env h' y u
  ns : ∃ m, h'.Ns env.locals m
  cell : ∀ y a u, env.cells.lookup y = some a → h.IsCell a u → ∃ u', h'.IsCell a u'
section
variable {c : Cx} {A : Around} {ce : CE} {env : Env} {ob : Addr → Prop} {σ : St} {ow : Nat → Option Addr} {h h₁ h' : Heap}
theorem Hf {M : Model} {A' : Around} {E : Value → Shared → Prop} {s : Shared} {x : Str} {i : Nat} {v : Value} {Q : Unit → Shared → Prop} (a : Act c A ce env ob σ ow s.heap) (hx : ce.vm.lookup x = some i) (hQ : ∀ h' tk, Put ce env s.heap h' x v → Q () { s with heap := h', toks := tk }) :
    wpAny M A' (storeName env x v) Q E s := by
  obtain ⟨m, hn⟩ := a.ns
  rcases a.kinds x i hx with hk | ⟨hk, ad, u, hc, hv⟩
  · refine wpAny_storeName_local hk hn (fun h' hn' hs => ?_) (by rw [a.ev.kind]; rfl)
    refine hQ h' _ ⟨⟨_, .inl rfl, fun b o hb e => hs.extBut b o hb e, ?_⟩, .inl ⟨hk, _, hn', by simp⟩, fun y j u hy hj l => ?_, ⟨_, hn'⟩, fun y ad u hy ic => ?_⟩
    · obtain ⟨o, _, _, e, _⟩ := hn'; rw [e]; simp
    · rcases l with ⟨e, m₂, n₂, q⟩ | ⟨e, ad, q, ic⟩
      · have : m₂ y = m y := by
          obtain ⟨o, es, ep, e1, e2, e3⟩ := n₂
          obtain ⟨o', es', ep', f1, f2, f3⟩ := hn
          rw [e1] at f1; cases f1
          rw [e2] at f2; cases f2
          rw [← e3.2 y, f3.2 y]
        exact .inl ⟨e, _, hn', by rw [if_neg hy, ← this]; exact q⟩
      · obtain ⟨o, e1, e2⟩ := ic
        exact .inr ⟨e, ad, q, o, hs.extBut ad o (a.cellL y ad q) e1, e2⟩
    · obtain ⟨o, e1, e2⟩ := ic
      exact ⟨u, o, hs.extBut ad o (a.cellL y ad hy) e1, e2⟩
  · refine wpAny_storeName_cell a.ev.kind hk hc hv fun h' ic hs => ?_
    have hn' : h'.Ns env.locals m := hn.sameBut hs (fun q => a.cellL x ad hc q.symm)
    refine hQ h' _ ⟨⟨ad, .inr ⟨x, hc⟩, fun b o hb e => hs.extBut b o hb e, ?_⟩, .inr ⟨hk, ad, hc, ic⟩, fun y j w hy hj l => ?_, ⟨m, hn'⟩, fun y ad' w hy ic' => ?_⟩
    · obtain ⟨o, e, _⟩ := ic; rw [e]; simp
    · rcases l with ⟨e, m₂, n₂, q⟩ | ⟨e, ad', q, ic'⟩
      · exact .inl ⟨e, m₂, n₂.sameBut hs (fun q => a.cellL x ad hc q.symm), q⟩
      · obtain ⟨o, e1, e2⟩ := ic'
        exact .inr ⟨e, ad', q, o, hs.extBut ad' o (fun z => hy (a.cells y x ad (z ▸ q) hc)) e1, e2⟩
    · by_cases hz : ad' = ad
      · subst hz; exact ⟨_, ic⟩
      · obtain ⟨o, e1, e2⟩ := ic'
        exact ⟨w, o, hs.extBut ad' o hz e1, e2⟩
noncomputable def Fh (ow : Nat → Option Addr) (i : Nat) (a : Option Addr) : Nat → Option Addr := fun j => if j = i then a else ow j
set_option tactic.hygienic true in
theorem Act.put' {ob' : Addr → Prop} {x : Str} {i : Nat} {v : Value} {av : AV} {own : Bool} {na : Option Addr} (a : Act c A ce env ob σ ow h) (k : Kp (Ac A) h h₁) (p : Put ce env h₁ h' x v) (hx : ce.vm.lookup x = some i)
    (hb : ∀ b, ob b → ob' b) (hn : ∀ b, ob' b → h.get? b ≠ none → ob b) (hd : ∀ b, ob' b → h₁.get? b ≠ none)
    (d : DenT c h₁ (Ar env ob' ow) av v) (hf : ∀ b, v = .ref b → b ∉ Ac A) (hs : own = false → na = none ∧ ∀ b, v = .ref b → ¬ Ar env ob' ow b) (ho : own = true → ∃ b, na = some b ∧ v = .ref b ∧ h.get? b = none ∧ ¬ ob' b) (hnd : own = true → ce.ap.contains i = true → ∀ b, v = .ref b → ND h₁ b) :
    Act c A ce env ob' (σ.set i (some (own, av))) (Fh ow i na) h' ∧ Rel (Ac A) (mine env ow) (mine env (Fh ow i na)) h h' := by
  have a₁ := a.kp k
  obtain ⟨t, ht, hk, htd⟩ := p.at'
  have tbad : mine env ow t := ht.elim .inl fun q => .inr (.inl q)
  have na_none : ∀ b, na = some b → h.get? b = none := fun b e => by
    cases own with
    | false => rw [(hs rfl).1] at e; cases e
    | true => obtain ⟨b', e1, e2, e3, _⟩ := ho rfl; rw [e1] at e; cases e; exact e3
  have mback : ∀ b, h.get? b ≠ none → mine env (Fh ow i na) b → mine env ow b := fun b e q => by
    rcases q with q | q | ⟨j, q⟩
    · exact .inl q
    · exact .inr (.inl q)
    · unfold Fh at q; split at q
      · exact absurd (na_none b q) e
      · exact .inr (.inr ⟨j, q⟩)
  have hback : ∀ b, h.get? b ≠ none → Ar env ob' (Fh ow i na) b → Ar env ob ow b := fun b e q => q.imp (fun q => hn b q e) (mback b e)
  have kept : ∀ b o, b ≠ t → h₁.get? b = some o → h'.get? b = some o := hk
  have dom₁ : ∀ b, h₁.get? b ≠ none → h'.get? b ≠ none := fun b e => by
    by_cases hb : b = t
    · subst hb; exact htd
    · exact Fq e fun o q => ⟨_, kept b o hb q⟩
  have cy : Eo h h' (Ar env ob ow) (Ar env ob' (Fh ow i na)) := ⟨fun b o hb e => kept b o (fun q => hb (.inr (q ▸ tbad))) ((k b o e).1 fun q => hb (a.ev.fsb b q)), fun b hb e q => hb (hback b e q)⟩
  -- the new value
  have dv : DenT c h' (Ar env ob' (Fh ow i na)) av v := by
    cases own with
    | false =>
      obtain ⟨hna, hnb⟩ := hs rfl
      have less : ∀ b, Ar env ob' (Fh ow i na) b → Ar env ob' ow b := fun b q => by
        rcases q with q | q | q | ⟨j, q⟩
        · exact .inl q
        · exact .inr (.inl q)
        · exact .inr (.inr (.inl q))
        · unfold Fh at q; split at q
          · rw [hna] at q; cases q
          · exact .inr (.inr (.inr ⟨j, q⟩))
      exact DenT.carryTop ⟨fun b o hb e => kept b o (fun q => hb (.inr (q ▸ tbad))) e, fun b hb _ q => hb (less b q)⟩ _ _ d fun b o e q => kept b o (fun z => hnb b e (.inr (z ▸ tbad))) q
    | true =>
      obtain ⟨b₀, hna, rfl, hfresh, _⟩ := ho rfl
      have more : ∀ b, Ar env ob' (Fh ow i na) b → Ar env ob' ow b ∨ b = b₀ := fun b q => by
        rcases q with q | q | q | ⟨j, q⟩
        · exact .inl (.inl q)
        · exact .inl (.inr (.inl q))
        · exact .inl (.inr (.inr (.inl q)))
        · unfold Fh at q; split at q
          · rw [hna] at q; cases q; exact .inr rfl
          · exact .inl (.inr (.inr (.inr ⟨j, q⟩)))
      refine DenT.carryTop ⟨fun b o hb e => kept b o (fun q => hb (.inl (.inr (q ▸ tbad)))) e, fun b hb _ q => hb (more b q)⟩ _ _ (den_self d) fun b o e q => ?_
      cases e
      exact kept _ o (fun z => a.mineThere tbad (z ▸ hfresh)) q
  have other : ∀ j own' av', j ≠ i → (σ.set i (some (own, av)))[j]? = some (some (own', av')) → σ[j]? = some (some (own', av')) := fun j own' av' hj e => by
    rw [List.getElem?_set_ne (fun q => hj q.symm)] at e; exact e
  have same : ∀ own' av', (σ.set i (some (own, av)))[i]? = some (some (own', av')) → own' = own ∧ av' = av := fun own' av' e => by
    rw [List.getElem?_set] at e
    simp only [if_true] at e
    split at e <;> cases e
    exact ⟨rfl, rfl⟩
  have ownJ : ∀ j av', j ≠ i → σ[j]? = some (some (true, av')) → ∃ y ad, ce.vm.lookup y = some j ∧ Ho env h' y (.ref ad) ∧ Fh ow i na j = some ad ∧ (ce.ap.contains j = true → ND h' ad) ∧ DenT c h' (Ar env ob' (Fh ow i na)) av' (.ref ad) ∧ ad ∉ Ac A := fun j av' hj e => by
    obtain ⟨y, ad, e1, l, e2, nd, dd⟩ := a.own j av' e
    have hyx : y ≠ x := fun q => by subst q; rw [hx] at e1; cases e1; exact hj rfl
    obtain ⟨_, o1, o2, o3⟩ := a.ow1 j ad e2
    have hnf : ad ∉ Ac A := fun q => (a.fsIn ad q).elim o1 o2
    have hadt : ad ≠ t := fun z => by rcases ht with ht | ⟨y', ht⟩; exact o2 (z.trans ht); exact o3 y' (z ▸ ht)
    refine ⟨y, ad, e1, p.there y j _ hyx e1 (l.kp k), by unfold Fh; rw [if_neg hj]; exact e2, fun z => ((nd z).kp k).at fun o q => kept ad o hadt q, DenT.carryTop cy _ _ dd fun b o e q => ?_, hnf⟩
    cases e
    exact kept _ o hadt ((k _ o q).1 hnf)
  refine ⟨?_, ?_⟩
  · exact {
      ev := {
        kind := a.ev.kind
        globs := a.ev.globs
        blts := a.ev.blts
        gk := a.ev.gk
        ck := a.ev.ck
        ground := fun b o e => kept b o (fun q => by first | exact (nN (a.ev.badG b (.inr (q ▸ tbad))) e).elim | (rw [a.ev.badG b (.inr (q ▸ tbad))] at e; cases e)) (a₁.ev.ground b o e)
        badG := fun b q => by
          cases e : c.hG.get? b with
          | none => rfl
          | some o => rw [← e]; exact a.ev.badG b (hback b (by first | exact nn (a.ev.ground b o e) | (rw [a.ev.ground b o e]; simp)) q)
        badD := fun b q => by
          rcases q with q | q | q | ⟨j, q⟩
          · exact dom₁ b (hd b q)
          · exact dom₁ b (a₁.ev.badD b (.inr (.inl q)))
          · exact dom₁ b (a₁.ev.badD b (.inr (.inr (.inl q))))
          · unfold Fh at q; split at q
            · cases own with
              | false => rw [(hs rfl).1] at q; cases q
              | true =>
                obtain ⟨b', e1, e2, e3, _⟩ := ho rfl
                rw [e1] at q; cases q
                exact DenT.there av b (e2 ▸ dv)
            · exact dom₁ b (a₁.ev.badD b (.inr (.inr (.inr ⟨j, q⟩))))
        fsb := fun b q => (a.fsIn b q).elim (fun q => .inl (hb b q)) fun e => .inr (.inl e)
        fr := fun l hl e he => by
          obtain ⟨f1, L, o, f2, f3, f4⟩ := a₁.ev.fr l hl e he
          by_cases hL : L = t
          · rcases ht with ht | ⟨y, ht⟩
            · obtain ⟨m, o', es, ep, g1, g2, g3⟩ := p.ns
              exact ⟨f1, L, o', f2, by rw [hL, ht]; exact g1, fun vs q => by first | exact (nN (g2) q).elim | (rw [g2] at q; cases q)⟩
            · exfalso
              have hin : L ∈ Ac A := by
                unfold Ac; rw [hl]; exact List.mem_filterMap.mpr ⟨e, he, f2⟩
              rcases a.fsIn L hin with q | q
              · exact a.obN L (.inr ⟨y, hL ▸ ht⟩) q
              · exact a.cellL y L (hL ▸ ht) q
          · exact ⟨f1, L, o, f2, kept L o hL f3, f4⟩
        n := by rw [List.length_set]; exact a.ev.n
        gt := a.ev.gt
        vb := a.ev.vb
        var := fun y j own' av' e1 e2 => by
          by_cases hj : j = i
          · subst hj
            have hyx : y = x := a.inj y x j e1 hx
            subst hyx
            obtain ⟨rfl, rfl⟩ := same _ _ e2
            refine ⟨v, p.here, ⟨dv, hf⟩, fun hfalse b e q => ?_⟩
            obtain ⟨hna, hnb⟩ := hs hfalse
            refine hnb b e ?_
            rcases q with q | q | q | ⟨j', q⟩
            · exact .inl q
            · exact .inr (.inl q)
            · exact .inr (.inr (.inl q))
            · unfold Fh at q; split at q
              · rw [hna] at q; cases q
              · exact .inr (.inr (.inr ⟨j', q⟩))
          · have e3 := other j own' av' hj e2
            have hyx : y ≠ x := fun q => by subst q; rw [hx] at e1; cases e1; exact hj rfl
            cases own' with
            | false =>
              obtain ⟨u, l, dd, n⟩ := a.ev.var y j false av' e1 e3
              have top : ∀ ad, u = .ref ad → h.get? ad ≠ none := fun ad e => by subst e; exact DenT.there av' ad dd.1
              exact ⟨u, p.there y j _ hyx e1 (l.kp k), ⟨DenT.carryTop cy _ _ dd.1 fun b o e q => kept b o (fun z => n rfl b e (.inr (z ▸ tbad))) ((k b o q).1 (dd.2 b e)), dd.2⟩, fun _ b e q => n rfl b e (hback b (top b e) q)⟩
            | true =>
              obtain ⟨y', ad, f1, l, f2, _, dd, hnf⟩ := ownJ j av' hj e3
              have : y = y' := a.inj y y' j e1 f1
              subst this
              exact ⟨.ref ad, l, ⟨dd, fun b e => by cases e; exact hnf⟩, fun q => by cases q⟩ }
      ns := p.ns
      kinds := fun y j e => by
        rcases a₁.kinds y j e with q | ⟨q, ad, u, e1, e2⟩
        · exact .inl q
        · obtain ⟨u', e3⟩ := p.cell y ad u e1 e2
          exact .inr ⟨q, ad, u', e1, e3⟩
      inj := a.inj
      cells := a.cells
      cellL := a.cellL
      own := fun j av' e => by
        by_cases hj : j = i
        · subst hj
          obtain ⟨e1, rfl⟩ := same _ _ e
          obtain ⟨b, e2, e3, e4, _⟩ := ho e1.symm
          subst e3
          exact ⟨x, b, hx, p.here, by unfold Fh; rw [if_pos rfl]; exact e2, fun z => (hnd e1.symm z b rfl).at fun o q => kept b o (fun w => a.mineThere tbad (w ▸ e4)) q, dv⟩
        · obtain ⟨y, ad, e1, l, e2, nd, dd, _⟩ := ownJ j av' hj (other j true av' hj e)
          exact ⟨y, ad, e1, l, e2, nd, dd⟩
      ow1 := fun j ad e => by
        unfold Fh at e
        split at e
        · rename_i hj; subst hj
          cases own with
          | false => rw [(hs rfl).1] at e; cases e
          | true =>
            have hnone := na_none ad e
            have hi : j < σ.length := by rw [← a.ev.n]; exact a.ev.vb x j hx
            refine ⟨⟨av, by rw [List.getElem?_set]; simp [hi]⟩, (by obtain ⟨b, e2, _, _, e4⟩ := ho rfl; rw [e2] at e; cases e; exact e4), fun q => ?_, fun y q => ?_⟩
            · obtain ⟨m, o, _, _, e1, _⟩ := a.ns; rw [q, e1] at hnone; cases hnone
            · exact a.mineThere (.inr (.inl ⟨y, q⟩)) hnone
        · rename_i hj
          obtain ⟨⟨av', h1⟩, h2⟩ := a.ow1 j ad e
          exact ⟨⟨av', by rw [List.getElem?_set_ne (fun q => hj q.symm)]; exact h1⟩, fun q => h2.1 (hn ad q (a.mineThere (.inr (.inr ⟨j, e⟩)))), h2.2⟩
      ow2 := fun j j' ad e1 e2 => by
        unfold Fh at e1 e2
        split at e1
        · rename_i q1
          split at e2
          · rename_i q2; rw [q1, q2]
          · exact absurd (na_none ad e1) (a.mineThere (.inr (.inr ⟨j', e2⟩)))
        · split at e2
          · exact absurd (na_none ad e2) (a.mineThere (.inr (.inr ⟨j, e1⟩)))
          · exact a.ow2 j j' ad e1 e2
      fsIn := fun b q => (a.fsIn b q).imp (hb b) id
      obN := fun b q q' => a.obN b q (hn b q' (a.mineThere (q.elim .inl fun q => .inr (.inl q))))
      top := a.top }
  · exact {
      keep := fun b o hb e => by
        obtain ⟨k1, sl, k2⟩ := k b o e
        have hbt : b ≠ t := fun q => hb (q ▸ tbad)
        exact ⟨fun q => kept b o hbt (k1 q), sl, kept b _ hbt k2⟩
      nb := fun b hb e q => hb (mback b e q)
      dom := fun b e => dom₁ b (k.stay e) }
theorem Act.put {x : Str} {i : Nat} {v : Value} {av : AV} {own : Bool} {na : Option Addr} (a : Act c A ce env ob σ ow h) (k : Kp (Ac A) h h₁) (p : Put ce env h₁ h' x v) (hx : ce.vm.lookup x = some i)
    (d : DenT c h₁ (Ar env ob ow) av v) (hf : ∀ b, v = .ref b → b ∉ Ac A) (hs : own = false → na = none ∧ ∀ b, v = .ref b → ¬ Ar env ob ow b) (ho : own = true → ∃ b, na = some b ∧ v = .ref b ∧ h.get? b = none) (hnd : own = true → ce.ap.contains i = true → ∀ b, v = .ref b → ND h₁ b) :
    Act c A ce env ob (σ.set i (some (own, av))) (Fh ow i na) h' ∧ Rel (Ac A) (mine env ow) (mine env (Fh ow i na)) h h' :=
  a.put' k p hx (fun _ q => q) (fun _ q _ => q) (fun b q => k.stay (a.ev.badD b (.inl q))) d hf hs (fun q => let ⟨b, e1, e2, e3⟩ := ho q; ⟨b, e1, e2, e3, fun q' => a.ev.badD b (.inl q') e3⟩) hnd
theorem Act.outer (a : Act c A ce env ob σ ow h) (hk : ∀ b o, (ob b → b ∈ Ac A) → h.get? b = some o → h'.get? b = some o) (hd : ∀ b, h.get? b ≠ none → h'.get? b ≠ none) : Act c A ce env ob σ ow h' := by
  have cy : Eo h h' (Ar env ob ow) (Ar env ob ow) := ⟨fun b o hb e => hk b o (fun q => absurd (.inl q) hb) e, fun _ hb _ => hb⟩
  have lds : ∀ x u, Ho env h x u → Ho env h' x u := fun x u l => by
    rcases l with ⟨e, m, n, q⟩ | ⟨e, t, q, o, e1, e2⟩
    · exact .inl ⟨e, m, n.at' fun o e => hk _ o (fun z => absurd z (a.obN _ (.inl rfl))) e, q⟩
    · exact .inr ⟨e, t, q, o, hk t o (fun z => absurd z (a.obN _ (.inr ⟨x, q⟩))) e1, e2⟩
  have ownJ : ∀ i av, σ[i]? = some (some (true, av)) → OwnV c ce env (Ar env ob ow) ow h' i av := fun i av e => by
    obtain ⟨x, ad, e1, l, e2, nd, dd⟩ := a.own i av e
    exact ⟨x, ad, e1, lds x _ l, e2, fun z => (nd z).at fun o q => hk _ o (fun z => absurd z (a.ow1 i _ e2).2.1) q, DenT.carryTop cy _ _ dd fun b o e q => by cases e; exact hk _ o (fun z => absurd z (a.ow1 i _ e2).2.1) q⟩
  exact {
    ev := { a.ev with
      ground := fun b o e => hk b o (fun z => by first | exact (nN (a.ev.badG b (.inl z)) e).elim | (rw [a.ev.badG b (.inl z)] at e; cases e)) (a.ev.ground b o e)
      badD := fun b q => hd b (a.ev.badD b q)
      fr := fun l hl e he => by
        obtain ⟨g1, L, o, g2, g3, g4⟩ := a.ev.fr l hl e he
        have hin : L ∈ Ac A := by unfold Ac; rw [hl]; exact List.mem_filterMap.mpr ⟨e, he, g2⟩
        exact ⟨g1, L, o, g2, hk L o (fun _ => hin) g3, g4⟩
      var := fun x j own' av' e1 e2 => by
        cases own' with
        | false =>
          obtain ⟨u, l, dd, n⟩ := a.ev.var x j false av' e1 e2
          exact ⟨u, lds x _ l, ⟨DenT.carryTop cy _ _ dd.1 fun b o e q => hk b o (fun z => absurd (.inl z) (n rfl b e)) q, dd.2⟩, n⟩
        | true =>
          obtain ⟨z, adj, g1, l, g2, _, dd⟩ := ownJ j av' e2
          have : x = z := a.inj x z j e1 g1
          subst this
          exact ⟨.ref adj, l, ⟨dd, fun b e q => by cases e; exact (a.fsIn _ q).elim (a.ow1 j _ g2).2.1 (a.ow1 j _ g2).2.2.1⟩, fun q => by cases q⟩ }
    ns := let ⟨m, n⟩ := a.ns; ⟨m, n.at' fun o e => hk _ o (fun z => absurd z (a.obN _ (.inl rfl))) e⟩
    kinds := fun x j e => by
      rcases a.kinds x j e with q | ⟨q, t, u, e1, o, e2, e3⟩
      · exact .inl q
      · exact .inr ⟨q, t, u, e1, o, hk t o (fun z => absurd z (a.obN _ (.inr ⟨x, e1⟩))) e2, e3⟩
    inj := a.inj
    cells := a.cells
    cellL := a.cellL
    own := ownJ
    ow1 := a.ow1
    ow2 := a.ow2
    fsIn := a.fsIn
    obN := a.obN
    top := a.top }
theorem Act.shed {ob' : Addr → Prop} (a : Act c A ce env ob' σ ow h) (hb : ∀ b, ob b → ob' b) (hf : ∀ b ∈ Ac A, ob b ∨ b = env.locals) (hk : ∀ b o, (ob' b → ob b) → h.get? b = some o → h'.get? b = some o) : Act c A ce env ob σ ow h' := by
  have hbad : ∀ b, Ar env ob ow b → Ar env ob' ow b := fun b q => q.elim (fun q => .inl (hb b q)) .inr
  have cy : Eo h h' (Ar env ob' ow) (Ar env ob ow) := ⟨fun b o hb e => hk b o (fun q => absurd (.inl q) hb) e, fun b q _ q' => q (hbad b q')⟩
  have lds : ∀ x u, Ho env h x u → Ho env h' x u := fun x u l => by
    rcases l with ⟨e, m, n, q⟩ | ⟨e, t, q, o, e1, e2⟩
    · exact .inl ⟨e, m, n.at' fun o e => hk _ o (fun z => absurd z (a.obN _ (.inl rfl))) e, q⟩
    · exact .inr ⟨e, t, q, o, hk t o (fun z => absurd z (a.obN _ (.inr ⟨x, q⟩))) e1, e2⟩
  have ownJ : ∀ i av, σ[i]? = some (some (true, av)) → OwnV c ce env (Ar env ob ow) ow h' i av := fun i av e => by
    obtain ⟨x, ad, e1, l, e2, nd, dd⟩ := a.own i av e
    exact ⟨x, ad, e1, lds x _ l, e2, fun z => (nd z).at fun o q => hk _ o (fun z => absurd z (a.ow1 i _ e2).2.1) q, DenT.carryTop cy _ _ dd fun b o e q => by cases e; exact hk _ o (fun z => absurd z (a.ow1 i _ e2).2.1) q⟩
  have there : ∀ b, Ar env ob ow b → h'.get? b ≠ none := fun b q => by
    have h1 := a.ev.badD b (hbad b q)
    cases z : h.get? b with
    | none => exact absurd z h1
    | some o =>
      rw [hk b o (fun w => ?_) z]; simp
      rcases q with q | q
      · exact q
      · exfalso
        rcases q with q | q | ⟨j, q⟩
        · exact a.obN b (.inl q) w
        · exact a.obN b (.inr q) w
        · exact (a.ow1 j b q).2.1 w
  exact {
    ev := { a.ev with
      ground := fun b o e => hk b o (fun z => by first | exact (nN (a.ev.badG b (.inl z)) e).elim | (rw [a.ev.badG b (.inl z)] at e; cases e)) (a.ev.ground b o e)
      badG := fun b q => a.ev.badG b (hbad b q)
      badD := there
      fsb := fun b q => (hf b q).elim .inl fun e => .inr (.inl e)
      fr := fun l hl e he => by
        obtain ⟨g1, L, o, g2, g3, g4⟩ := a.ev.fr l hl e he
        have hin : L ∈ Ac A := by unfold Ac; rw [hl]; exact List.mem_filterMap.mpr ⟨e, he, g2⟩
        exact ⟨g1, L, o, g2, hk L o (fun z => (hf L hin).elim id fun q => absurd z (a.obN _ (.inl q))) g3, g4⟩
      var := fun x j own' av' e1 e2 => by
        cases own' with
        | false =>
          obtain ⟨u, l, dd, n⟩ := a.ev.var x j false av' e1 e2
          exact ⟨u, lds x _ l, ⟨DenT.carryTop cy _ _ dd.1 fun b o e q => hk b o (fun z => absurd (.inl z) (n rfl b e)) q, dd.2⟩, fun _ b e q => n rfl b e (hbad b q)⟩
        | true =>
          obtain ⟨z, adj, g1, l, g2, _, dd⟩ := ownJ j av' e2
          have : x = z := a.inj x z j e1 g1
          subst this
          exact ⟨.ref adj, l, ⟨dd, fun b e q => by cases e; exact (a.fsIn _ q).elim (a.ow1 j _ g2).2.1 (a.ow1 j _ g2).2.2.1⟩, fun q => by cases q⟩ }
    ns := let ⟨m, n⟩ := a.ns; ⟨m, n.at' fun o e => hk _ o (fun z => absurd z (a.obN _ (.inl rfl))) e⟩
    kinds := fun x j e => by
      rcases a.kinds x j e with q | ⟨q, t, u, e1, o, e2, e3⟩
      · exact .inl q
      · exact .inr ⟨q, t, u, e1, o, hk t o (fun z => absurd z (a.obN _ (.inr ⟨x, e1⟩))) e2, e3⟩
    inj := a.inj
    cells := a.cells
    cellL := a.cellL
    own := ownJ
    ow1 := fun i ad e => let ⟨h1, h2, h3⟩ := a.ow1 i ad e; ⟨h1, fun q => h2 (hb ad q), h3⟩
    ow2 := a.ow2
    fsIn := hf
    obN := fun b q q' => a.obN b q (hb b q')
    top := a.top }
end
end Mine
end
section
open PySem PyProof.Rows PySem.SeqAt
namespace Mine
set_option tactic.hygienic false
set_option autoImplicit false
section
variable {c : Cx} {A : Around} {ce : CE} {env : Env} {ob : Addr → Prop} {σ : St} {ow : Nat → Option Addr} {h h₁ h' : Heap}
theorem owned_fs (a : Act c A ce env ob σ ow h) {i : Nat} {ad : Addr} (e : ow i = some ad) : ad ∉ Ac A := fun q => (a.fsIn ad q).elim (a.ow1 i ad e).2.1 (a.ow1 i ad e).2.2.1
theorem Act.mut {i : Nat} {ad : Addr} {y : AV} (a : Act c A ce env ob σ ow h) (k : Kp (Ac A) h h₁) (hi : ow i = some ad) (hk : ∀ b o, b ≠ ad → h₁.get? b = some o → h'.get? b = some o) (d : DenT c h' (Ar env ob ow) y (.ref ad)) (hnd : ce.ap.contains i = true → ND h' ad) :
    Act c A ce env ob (σ.set i (some (true, y))) ow h' ∧ Rel (Ac A) (mine env ow) (mine env ow) h h' := by
  have a₁ := a.kp k
  obtain ⟨⟨av₀, hσ⟩, o1, o2, o3⟩ := a.ow1 i ad hi
  have hnf := owned_fs a hi
  have hmi : mine env ow ad := .inr (.inr ⟨i, hi⟩)
  have had : h'.get? ad ≠ none := DenT.there y ad d
  have dom₁ : ∀ b, h₁.get? b ≠ none → h'.get? b ≠ none := fun b e => by
    by_cases hb : b = ad
    · subst hb; exact had
    · exact Fq e fun o q => ⟨_, hk b o hb q⟩
  have cy : Eo h₁ h' (Ar env ob ow) (Ar env ob ow) := ⟨fun b o hb e => hk b o (fun q => hb (.inr (q ▸ hmi))) e, fun _ hb _ => hb⟩
  have lds : ∀ x u, Ho env h₁ x u → Ho env h' x u := fun x u l => by
    rcases l with ⟨e, m, n, q⟩ | ⟨e, t, q, o, e1, e2⟩
    · exact .inl ⟨e, m, n.at' fun o e => hk _ o (fun z => o2 z.symm) e, q⟩
    · exact .inr ⟨e, t, q, o, hk t o (fun z => o3 x (z ▸ q)) e1, e2⟩
  obtain ⟨x₀, ad₀, f1, f2, f3, _, f4⟩ := a₁.own i av₀ hσ
  rw [hi] at f3; cases f3
  have other : ∀ j own' av', j ≠ i → (σ.set i (some (true, y)))[j]? = some (some (own', av')) → σ[j]? = some (some (own', av')) := fun j own' av' hj e => by
    rw [List.getElem?_set_ne (fun q => hj q.symm)] at e; exact e
  have same : ∀ own' av', (σ.set i (some (true, y)))[i]? = some (some (own', av')) → own' = true ∧ av' = y := fun own' av' e => by
    rw [List.getElem?_set] at e
    simp only [if_true] at e
    split at e <;> cases e
    exact ⟨rfl, rfl⟩
  have ownJ : ∀ j av', j ≠ i → σ[j]? = some (some (true, av')) → OwnV c ce env (Ar env ob ow) ow h' j av' := fun j av' hj e => by
    obtain ⟨z, adj, e1, l, e2, nd, dd⟩ := a₁.own j av' e
    have hne : adj ≠ ad := fun w => hj (a.ow2 j i ad (w ▸ e2) hi)
    refine ⟨z, adj, e1, lds z _ l, e2, fun z => (nd z).at fun o q => hk _ o hne q, DenT.carryTop cy _ _ dd fun b o e q => ?_⟩
    cases e
    exact hk _ o hne q
  refine ⟨?_, ?_⟩
  · exact {
      ev := {
        kind := a.ev.kind
        globs := a.ev.globs
        blts := a.ev.blts
        gk := a.ev.gk
        ck := a.ev.ck
        ground := fun b o e => hk b o (fun q => by first | exact (nN (a.ev.badG b (.inr (q ▸ hmi))) e).elim | (rw [a.ev.badG b (.inr (q ▸ hmi))] at e; cases e)) (a₁.ev.ground b o e)
        badG := a.ev.badG
        badD := fun b q => dom₁ b (a₁.ev.badD b q)
        fsb := a.ev.fsb
        fr := fun l hl e he => by
          obtain ⟨g1, L, o, g2, g3, g4⟩ := a₁.ev.fr l hl e he
          have hin : L ∈ Ac A := by unfold Ac; rw [hl]; exact List.mem_filterMap.mpr ⟨e, he, g2⟩
          exact ⟨g1, L, o, g2, hk L o (fun q => hnf (q ▸ hin)) g3, g4⟩
        n := by rw [List.length_set]; exact a.ev.n
        gt := a.ev.gt
        vb := a.ev.vb
        var := fun x j own' av' e1 e2 => by
          by_cases hj : j = i
          · subst hj
            have : x = x₀ := a.inj x x₀ j e1 f1
            subst this
            obtain ⟨rfl, rfl⟩ := same _ _ e2
            exact ⟨.ref ad, lds x _ f2, ⟨d, fun b e => by cases e; exact hnf⟩, fun q => by cases q⟩
          · have e3 := other j own' av' hj e2
            cases own' with
            | false =>
              obtain ⟨u, l, dd, n⟩ := a₁.ev.var x j false av' e1 e3
              exact ⟨u, lds x _ l, ⟨DenT.carryTop cy _ _ dd.1 fun b o e q => hk b o (fun z => n rfl b e (.inr (z ▸ hmi))) q, dd.2⟩, n⟩
            | true =>
              obtain ⟨z, adj, g1, l, g2, _, dd⟩ := ownJ j av' hj e3
              have : x = z := a.inj x z j e1 g1
              subst this
              exact ⟨.ref adj, l, ⟨dd, fun b e => by cases e; exact owned_fs a g2⟩, fun q => by cases q⟩ }
      ns := let ⟨m, n⟩ := a₁.ns; ⟨m, n.at' fun o e => hk _ o (fun z => o2 z.symm) e⟩
      kinds := fun x j e => by
        rcases a₁.kinds x j e with q | ⟨q, t, u, e1, o, e2, e3⟩
        · exact .inl q
        · exact .inr ⟨q, t, u, e1, o, hk t o (fun z => o3 x (z ▸ e1)) e2, e3⟩
      inj := a.inj
      cells := a.cells
      cellL := a.cellL
      own := fun j av' e => by
        by_cases hj : j = i
        · subst hj
          obtain ⟨_, rfl⟩ := same _ _ e
          exact ⟨x₀, ad, f1, lds x₀ _ f2, hi, hnd, d⟩
        · exact ownJ j av' hj (other j true av' hj e)
      ow1 := fun j adj e => by
        obtain ⟨⟨av', h1⟩, h2⟩ := a.ow1 j adj e
        refine ⟨?_, h2⟩
        by_cases hj : j = i
        · subst hj
          exact ⟨y, by rw [List.getElem?_set]; simp [(List.getElem?_eq_some_iff.mp h1).1]⟩
        · exact ⟨av', by rw [List.getElem?_set_ne (fun q => hj q.symm)]; exact h1⟩
      ow2 := a.ow2
      fsIn := a.fsIn
      obN := a.obN
      top := a.top }
  · exact {
      keep := fun b o hb e => by
        obtain ⟨k1, sl, k2⟩ := k b o e
        have hbt : b ≠ ad := fun q => hb (q ▸ hmi)
        exact ⟨fun q => hk b o hbt (k1 q), sl, hk b _ hbt k2⟩
      nb := fun b hb _ => hb
      dom := fun b e => dom₁ b (k.stay e) }
end
noncomputable def As (fresh : Nat → Bool) : MS → Bool
  | .seq a b => As fresh a && As fresh b
  | .fz _ a => As fresh a
  | .ite _ a b => As fresh a && As fresh b
  | .while _ b => As fresh b
  | .for _ _ b => As fresh b
  | .ret m => Iz fresh m
  | _ => true
noncomputable def flowOf : Out → Flow
  | .brk => .brk
  | .cont => .cont
  | _ => .next
noncomputable def Done (c : Cx) (A : Around) (ce : CE) (env : Env) (ob : Addr → Prop) (fq : Bool) (ow : Nat → Option Addr) (s : Shared) (o : Out) (σ' : St) (f : Flow) (s' : Shared) : Prop := match o with
  | .exc => False
  | .ret av => ∃ v ow', f = .ret v ∧ RelS (Ac A) (mine env ow) (mine env ow') s s' ∧ DenT c s'.heap ob av v ∧ (∀ b, v = .ref b → ¬ ob b ∧ b ∉ Ac A) ∧ (fq = true → ∀ b, v = .ref b → s.heap.get? b = none)
  | o => ∃ ow', f = flowOf o ∧ Act c A ce env ob σ' ow' s'.heap ∧ RelS (Ac A) (mine env ow) (mine env ow') s s'
noncomputable def ExcTo (c : Cx) (A : Around) (ce : CE) (env : Env) (ob : Addr → Prop) (ow : Nat → Option Addr) (s : Shared) (o : Out) (σ' : St) (E : Value → Shared → Prop) : Prop :=
  o = .exc → ∀ (s₁ : Shared) (h' : Heap) (ea : Addr) (args : List Value) (ow' : Nat → Option Addr), Act c A ce env ob σ' ow' s₁.heap → RelS (Ac A) (mine env ow) (mine env ow') s s₁ → Heap.MadeExcOf s₁.heap h' ea (.type "ValueError") args → E (.ref ea) { s₁ with heap := h' }
noncomputable def SS (c : Cx) (d : Nat) (ce : CE) (fq : Bool) (run : Env → Sem Flow) (ms : MS) : Prop :=
  ∀ (N : Nat) (A : Around) (env : Env) (ob : Addr → Prop) (σ : St) (ow : Nat → Option Addr) (s : Shared) (o : Out) (σ' : St) (E : Value → Shared → Prop), Room A d → Act c A ce env ob σ ow s.heap → Ah c.G c.F N ms σ = some (o, σ') → (fq = true → As c.fresh ms = true) →
    PassesOwn (model c.prog c.w) A env E → ExcTo c A ce env ob ow s o σ' E → wpAny (model c.prog c.w) A (run env) (Done c A ce env ob fq ow s o σ') E s
section
variable {c : Cx} {d : Nat} {ce : CE} {fq : Bool} {A : Around} {env : Env} {ob : Addr → Prop} {ow ow₁ : Nat → Option Addr} {s s₁ : Shared} {o : Out} {σ' : St}
theorem Done.after {f : Flow} {s' : Shared} (r : RelS (Ac A) (mine env ow) (mine env ow₁) s s₁) (x : Done c A ce env ob fq ow₁ s₁ o σ' f s') : Done c A ce env ob fq ow s o σ' f s' := by
  cases o with
  | exc => exact x
  | ret av =>
    obtain ⟨v, ow', h1, h2, h3, h4, h5⟩ := x
    exact ⟨v, ow', h1, r.trans h2, h3, h4, fun q b e => by
      cases z : s.heap.get? b with
      | none => rfl
      | some ob' => exact absurd (h5 q b e) (r.heap.dom b (by first | exact nn (z) | (rw [z]; simp)))⟩
  | next => obtain ⟨ow', h1, h2, h3⟩ := x; exact ⟨ow', h1, h2, r.trans h3⟩
  | brk => obtain ⟨ow', h1, h2, h3⟩ := x; exact ⟨ow', h1, h2, r.trans h3⟩
  | cont => obtain ⟨ow', h1, h2, h3⟩ := x; exact ⟨ow', h1, h2, r.trans h3⟩
theorem ExcTo.after {E : Value → Shared → Prop} (r : RelS (Ac A) (mine env ow) (mine env ow₁) s s₁) (x : ExcTo c A ce env ob ow s o σ' E) : ExcTo c A ce env ob ow₁ s₁ o σ' E :=
  fun q s₂ h' ea args ow' a' r' m => x q s₂ h' ea args ow' a' (r.trans r') m
theorem SS.fz {run : Env → Sem Flow} {ms : MS} (i : Nat) (h : SS c d ce fq run ms) : SS c d ce fq run (.fz i ms) := fun N A env ob σ ow s o σ' E rm a e hf hE hx => by
  simp only [J2] at e
  have r : RelS (Ac A) (mine env ow) (mine env (Hj ow i)) s s := ⟨s.heap, s.toks, rfl, .less owFree_less⟩
  exact wpAny_mono (h N A env ob (freeze σ i) (Hj ow i) s o σ' E rm (a.freeze i) e hf hE (hx.after r)) (fun f s' x => x.after r) fun _ _ q => q
theorem SS.fzAll {run : Env → Sem Flow} {ms : MS} : ∀ (is : List Nat), SS c d ce fq run ms → SS c d ce fq run (fzAll is ms)
  | [], h => h
  | i :: r, h => SS.fz i (SS.fzAll r h)
theorem SS.nil : SS c d ce fq (fun env => execs [] env) .skip := fun N A env ob σ ow s o σ' E rm a e hf hE hx => by
  simp only [J0] at e; cases e
  exact wpAny_execs_nil ⟨ow, rfl, a, .refl⟩
theorem SS.cons {st : Stmt} {rest : List Stmt} {m ms : MS} (h : SS c d ce fq (fun env => exec st env) m) (hr : SS c d ce fq (fun env => execs rest env) ms) : SS c d ce fq (fun env => execs (st :: rest) env) (.seq m ms) := fun N A env ob σ ow s o σ' E rm a e hf hE hx => by
  simp only [J1] at e
  have hf1 : fq = true → As c.fresh m = true := fun q => (Bool.and_eq_true_iff.mp (hf q)).1
  have hf2 : fq = true → As c.fresh ms = true := fun q => (Bool.and_eq_true_iff.mp (hf q)).2
  cases q1 : Ah c.G c.F N m σ with
  | none => rw [q1] at e; cases e
  | some p =>
    obtain ⟨o₁, σ₁⟩ := p
    rw [q1] at e
    refine wpAny_execs_cons ?_
    cases o₁ with
    | next =>
      dsimp only at e
      refine wpAny_mono (h N A env ob σ ow s .next σ₁ E rm a q1 hf1 hE (fun q => by cases q)) (fun f s' x => ?_) fun _ _ q => q
      obtain ⟨ow', rfl, a', r⟩ := x
      exact wpAny_mono (hr N A env ob σ₁ ow' s' o σ' E rm a' e hf2 hE (hx.after r)) (fun f s' x => x.after r) fun _ _ q => q
    | exc =>
      cases e
      exact wpAny_mono (h N A env ob σ ow s .exc _ E rm a q1 hf1 hE hx) (fun f s' x => x.elim) fun _ _ q => q
    | ret av =>
      cases e
      refine wpAny_mono (h N A env ob σ ow s (.ret av) _ E rm a q1 hf1 hE hx) (fun f s' x => ?_) fun _ _ q => q
      have x' := x
      obtain ⟨v, ow', rfl, _⟩ := x
      exact x'
    | brk =>
      cases e
      refine wpAny_mono (h N A env ob σ ow s .brk _ E rm a q1 hf1 hE hx) (fun f s' x => ?_) fun _ _ q => q
      have x' := x
      obtain ⟨ow', rfl, _⟩ := x
      exact x'
    | cont =>
      cases e
      refine wpAny_mono (h N A env ob σ ow s .cont _ E rm a q1 hf1 hE hx) (fun f s' x => ?_) fun _ _ q => q
      have x' := x
      obtain ⟨ow', rfl, _⟩ := x
      exact x'
theorem SS.ite {t : Expr} {b oe : List Stmt} {p : Pos} {m : ME} {mb mo : MS} (ht : SB c d ce t m) (hb : SS c d ce fq (fun env => execs b env) mb) (ho : SS c d ce fq (fun env => execs oe env) mo) :
    SS c d ce fq (fun env => exec (.If t b oe p) env) (.ite m mb mo) := fun N A env ob σ ow s o σ' E rm a e hf hE hx => by
  simp only [J8] at e
  have hf1 : fq = true → As c.fresh mb = true := fun q => (Bool.and_eq_true_iff.mp (hf q)).1
  have hf2 : fq = true → As c.fresh mo = true := fun q => (Bool.and_eq_true_iff.mp (hf q)).2
  cases q1 : Bb c.G c.F m σ with
  | none => rw [q1] at e; cases e
  | some t =>
    rw [q1] at e
    refine wpAny_If (wpAny_mono (ht A env σ _ s t rm a.ev q1) (fun t' s₁ h₁ => ?_) fun _ _ q => q.elim)
    obtain ⟨rfl, k⟩ := h₁
    have r : RelS (Ac A) (mine env ow) (mine env ow) s s₁ := .kp k
    cases t' with
    | true =>
      rw [if_pos rfl]
      exact wpAny_mono (hb N A env ob σ ow s₁ o σ' E rm (a.kpS k) e hf1 hE (hx.after r)) (fun f s' x => x.after r) fun _ _ q => q
    | false =>
      rw [if_neg (by simp)]
      exact wpAny_mono (ho N A env ob σ ow s₁ o σ' E rm (a.kpS k) e hf2 hE (hx.after r)) (fun f s' x => x.after r) fun _ _ q => q
theorem SS.ret {e : Expr} {p : Pos} {m : ME} (h : SE c d ce true e m) : SS c d ce fq (fun env => exec (.Return (some e) p) env) (.ret m) := fun N A env ob σ ow s o σ' E rm a q hf hE hx => by
  replace q := i1 q
  obtain ⟨av, q1, q⟩ := q
  obtain ⟨rfl, rfl⟩ := Prod.mk.inj (Option.some.inj q)
  refine wpAny_Return_some (wpAny_mono (h A env σ _ s av rm a.ev q1) (fun v s₁ h₁ => ?_) fun _ _ q => q.elim)
  obtain ⟨k, d, n, fr⟩ := h₁
  refine ⟨v, ow, rfl, .kp k, DenT.carryTop (bad' := ob) ⟨fun _ _ _ e => e, fun b hb _ q => hb (.inl q)⟩ _ _ d.1 fun _ _ _ e => e, fun b e => ⟨fun q => n rfl b e (.inl q), d.2 b e⟩, fun q b e => fr ?_ b e⟩
  exact hf q
theorem SS.brk {p : Pos} : SS c d ce fq (fun env => exec (.Break p) env) .brk := fun N A env ob σ ow s o σ' E rm a e hf hE hx => by
  simp only [K3] at e; cases e
  exact wpAny_Break ⟨ow, rfl, a, .refl⟩
theorem SS.cont {p : Pos} : SS c d ce fq (fun env => exec (.Continue p) env) .cont := fun N A env ob σ ow s o σ' E rm a e hf hE hx => by
  simp only [K4] at e; cases e
  exact wpAny_Continue ⟨ow, rfl, a, .refl⟩
theorem Gb {s₀ : Shared} {mi mi' : Addr → Prop} {h' : Heap} {tk : Nat} {fs : List Addr} (k : KpS fs s₀ s) (r : Rel fs mi mi' s₀.heap h') : RelS fs mi mi' s₀ { s with heap := h', toks := tk } := by
  obtain ⟨h₁, tk₁, rfl, _⟩ := k
  exact ⟨h', tk, rfl, r⟩
theorem SS.assign1 {x : Str} {i : Nat} {e : Expr} {p p' : Pos} {m : ME} (hx : ce.vm.lookup x = some i) (h : SE c d ce true e m) (hs : ∀ env : Env, swapsWith e (some (.Name x p')) p.line env = pure false) :
    SS c d ce fq (fun env => exec (.Assign [.Name x p'] e p) env) (.assign i m) := fun N A env ob σ ow s o σ' E rm a q hf hE hex => by
  replace q := i1 q
  obtain ⟨av, q1, q⟩ := q
  obtain ⟨rfl, rfl⟩ := Prod.mk.inj (Option.some.inj q)
  refine wpAny_Assign_Name (wpAny_mono (h A env σ _ s av rm a.ev q1) (fun v s₁ h₁ => ?_) fun _ _ q => q.elim) (hs env)
  obtain ⟨k, d, n, fr⟩ := h₁
  refine Hf (a.kpS k) hx fun h' tk put => ?_
  obtain ⟨a', r⟩ := a.put (own := false) (na := none) k.heap put hx d.1 d.2 (fun _ => ⟨rfl, n rfl⟩) (fun q => by cases q) (fun q => by cases q)
  exact ⟨_, rfl, a', Gb k r⟩
theorem SS.assignF1 {x : Str} {i : Nat} {e : Expr} {p p' : Pos} {m : ME} (hx : ce.vm.lookup x = some i) (hap : ce.ap.contains i = false) (h : SE c d ce true e m) (hfr : Iz c.fresh m = true) (hs : ∀ env : Env, swapsWith e (some (.Name x p')) p.line env = pure false) :
    SS c d ce fq (fun env => exec (.Assign [.Name x p'] e p) env) (.assignF i m) := fun N A env ob σ ow s o σ' E rm a q hf hE hex => by
  replace q := i1 q
  obtain ⟨av, q1, q⟩ := q
  replace q := iS q
  obtain ⟨hl, q⟩ := q
  obtain ⟨rfl, rfl⟩ := Prod.mk.inj q
  refine wpAny_Assign_Name (wpAny_mono (h A env σ _ s av rm a.ev q1) (fun v s₁ h₁ => ?_) fun _ _ q => q.elim) (hs env)
  obtain ⟨k, d, n, fr⟩ := h₁
  refine Hf (a.kpS k) hx fun h' tk put => ?_
  have hv : ∃ b, v = .ref b := by
    have := d.1
    cases av <;> simp only [isList] at hl <;> try (cases hl; done)
    all_goals (simp only [DenT] at this; obtain ⟨b, _, e, _⟩ := this; exact ⟨b, e⟩)
  obtain ⟨b, rfl⟩ := hv
  obtain ⟨a', r⟩ := a.put (own := true) (na := some b) k.heap put hx d.1 d.2 (fun q => by cases q) (fun _ => ⟨b, rfl, rfl, fr hfr b rfl⟩) (fun _ q => by first | exact (nN (hap) q).elim | (rw [hap] at q; cases q))
  exact ⟨_, rfl, a', Gb k r⟩
theorem SS.assignL {x : Str} {i : Nat} {es : List Expr} {p p' p'' : Pos} {m : ME} (hx : ce.vm.lookup x = some i) (h : SL c d ce es m) :
    SS c d ce fq (fun env => exec (.Assign [.Name x p'] (.List es p'') p) env) (.assignL i m) := fun N A env ob σ ow s o σ' E rm a q hf hE hex => by
  replace q := iT q
  obtain ⟨zs, q1, q⟩ := q
  replace q := iS q
  obtain ⟨hlen, q⟩ := q
  obtain ⟨rfl, rfl⟩ := Prod.mk.inj q
  · refine wpAny_Assign_Name (wpAny_List (wpAny_mono (h A env σ _ s p'' zs rm a.ev q1) (fun vs s₁ h₁ => ?_) fun _ _ q => q.elim)) rfl
    have hl := h₁.2.length
    have hll := Em
    refine ⟨by with_reducible exact (ZA ‹_› ‹_› ‹_›), ?_⟩
    have a₁ := a.kpS h₁.1
    have k := h₁.1.trans (Kf (o := { cls := .type "list", data := .seq vs.toArray }))
    have hnone : s.heap.get? s₁.heap.objs.size = none := h₁.1.heap.dom (Az _)
    refine Hf (a.kpS k) hx fun h' tk put => ?_
    obtain ⟨a', r⟩ := a.put (own := true) (na := some s₁.heap.objs.size) (av := mkL zs) k.heap put hx (den_mkL (Bg ..) (h₁.2.push _) hlen)
      (fun b e q => by cases e; exact a.ev.badD _ (a.ev.fsb _ q) hnone) (fun q => by cases q) (fun _ => ⟨_, rfl, rfl, hnone⟩) (fun _ _ b e => by cases e; exact ⟨_, Heap.get?_push_size _ rfl, rfl⟩)
    exact ⟨_, rfl, a', Gb k r⟩
end
end Mine
end
section
open PySem PyProof.Rows PySem.SeqAt
namespace Mine
set_option tactic.hygienic false
set_option autoImplicit false
section
variable {c : Cx} {d : Nat} {ce : CE} {fq : Bool}
theorem comp_put {elt target iter : Expr} {ifs : List Expr} {scope : Scope} {pos p p' : Pos} {xs : List Str} {me mi mt : ME} {cpi : Bool} {A : Around} {env : Env} {ob : Addr → Prop} {σ : St} {ow : Nat → Option Addr} {s : Shared} {av : AV} {x : Str} {i : Nat} {E : Value → Shared → Prop} {Q : Flow → Shared → Prop} (own : Bool) (hap : own = true → ce.ap.contains i = false)
    (ok : c.Ok) (hx : ce.vm.lookup x = some i) (ht : Bf target = some xs) (sc : ScOk ce.scope scope xs) (hu : Hc iter) (hi : SI c d ce cpi iter mi) (he : SE c d (Bc ce scope xs) true elt me) (hT : ST c d (Bc ce scope xs) ifs mt)
    (rm : Room A d) (a : Act c A ce env ob σ ow s.heap) (e : Ae c.G c.F (.comp me xs.length mi mt) σ = some av)
    (hQ : ∀ ow' s', Act c A ce env ob (σ.set i (some (own, av))) ow' s'.heap → RelS (Ac A) (mine env ow) (mine env ow') s s' → Q .next s') :
    wpAny (model c.prog c.w) A (exec (.Assign [.Name x p'] (.ListComp elt [⟨target, iter, ifs, 0⟩] scope pos) p) env) Q E s := by
  have hSE : SE c d ce true (.ListComp elt [⟨target, iter, ifs, 0⟩] scope pos) (.comp me xs.length mi mt) := SE.comp ok ht sc hu hi he hT
  obtain ⟨b, hb⟩ : ∃ b, swapsWith (.ListComp elt [⟨target, iter, ifs, 0⟩] scope pos) (some (.Name x p')) p.line env = pure b := ⟨_, rfl⟩
  cases b with
  | false =>
    refine wpAny_Assign_Name (wpAny_mono (hSE A env σ _ s av rm a.ev e) (fun v s₁ h₁ => ?_) fun _ _ q => q.elim) hb
    obtain ⟨k, d, n, fr⟩ := h₁
    refine Hf (a.kpS k) hx fun h' tk put => ?_
    cases own with
    | false =>
      obtain ⟨a', r⟩ := a.put (own := false) (na := none) k.heap put hx d.1 d.2 (fun _ => ⟨rfl, n rfl⟩) (fun q => by cases q) (fun q => by cases q)
      exact hQ _ _ a' (Gb k r)
    | true =>
      have hv : ∃ b, v = .ref b := by
        have hd := d.1
        obtain ⟨_, _, e⟩ := i1 e
        obtain ⟨_, _, e⟩ := iL e
        obtain ⟨zs, rfl⟩ := iM e
        unfold mkL at hd
        cases hz : Hk zs <;> rw [hz] at hd <;> (simp only [DenT] at hd; obtain ⟨b, _, e, _⟩ := hd; exact ⟨b, e⟩)
      obtain ⟨b, rfl⟩ := hv
      obtain ⟨a', r⟩ := a.put (own := true) (na := some b) k.heap put hx d.1 d.2 (fun q => by cases q) (fun _ => ⟨b, rfl, rfl, fr rfl b rfl⟩) (fun q z => by first | exact (nN (hap q) z).elim | (rw [hap q] at z; cases z))
      exact hQ _ _ a' (Gb k r)
  | true =>
    rw [exec_Assign_Name_used _ _ _ _ hb]
    refine wpAny_bind (wpAny_standAt (wpAny_bind ?_))
    show wpAny _ A (do let _ ← comprehension (.ListComp elt [⟨target, iter, ifs, 0⟩] scope pos) scope env _ (newList []) false (eval iter env) (some (assign (.Name x p') env))) _ _ s
    refine wpAny_bind (wpAny_mono (comp_use (use := some (assign (.Name x p') env)) (Q := fun _ s' => Q .next s') ok ht sc hu hi he hT rm a.ev e fun D C h' tk m' hD hC hDC hn kp dn => ?_) (fun _ s' hq => wpAny_pure (wpAny_pure hq)) fun _ _ e => e)
    show wpAny _ A (assign (.Name x p') env (.ref D)) _ _ _
    have a₁ : Act c A ce env ob σ ow h' := a.kp kp
    refine wpAny_assign_Name (Hf (s := { s with heap := h', toks := tk }) a₁ hx fun h₂ tk₂ put => ?_)
    have put : Put ce env h' h₂ x (.ref D) := put
    have hCm : ∀ t, (t = env.locals ∨ ∃ y, env.cells.lookup y = some t) → C ≠ t := fun t ht q => by
      subst q
      exact a.mineThere (ht.elim .inl fun q => .inr (.inl q)) hC
    obtain ⟨t, ht', hkt, _⟩ := put.at'
    refine ⟨m', hn.at' fun o e => hkt C o (hCm t ht') e, fun h₃ hs₃ => ?_⟩
    have hCd : h'.get? C ≠ none := by obtain ⟨o, _, _, e, _⟩ := hn; rw [e]; simp
    have dn' : DenT c h' (Ar env (fun b => ob b ∨ b = C) ow) av (.ref D) := DenT.carryTop ⟨fun _ _ _ e => e, fun b hb _ q => hb (by
      rcases q with (q | q) | q
      · exact .inl (.inl q)
      · exact .inr q
      · exact .inl (.inr q))⟩ _ _ dn fun _ _ _ e => e
    have hDf : D ∉ Ac A := fun q => a.ev.badD D (a.ev.fsb D q) hD
    have fin : ∀ (na : Option Addr), (own = false → na = none) → (own = true → na = some D) → Q .next { s with heap := h₃, toks := tk₂ } := fun na h1 h2 => by
      obtain ⟨a', r⟩ := a.put' (ob' := fun b => ob b ∨ b = C) (own := own) (na := na) kp put hx (fun _ q => .inl q) (fun b q e => q.elim id fun z => absurd (z ▸ hC) e)
        (fun b q => q.elim (fun q => kp.stay (a.ev.badD b (.inl q))) fun z => z ▸ hCd) dn' (fun b e => by cases e; exact hDf)
        (fun q => ⟨h1 q, fun b e z => by
          cases e
          rcases z with (z | z) | z
          · exact a.ev.badD _ (.inl z) hD
          · exact hDC z
          · exact a.mineThere z hD⟩)
        (fun q => ⟨D, h2 q, rfl, hD, fun z => z.elim (fun z => a.ev.badD _ (.inl z) hD) hDC⟩) (fun q z => by first | exact (nN (hap q) z).elim | (rw [hap q] at z; cases z))
      have hk₃ : ∀ b o, b ≠ C → h₂.get? b = some o → h₃.get? b = some o := fun b o hb e => hs₃.extBut b o hb e
      have dom₃ : ∀ b, b ≠ C → h₂.get? b ≠ none → h₃.get? b ≠ none := fun b hb e => by
        exact Fq e fun o q => ⟨_, hk₃ b o hb q⟩
      have a'' := a'.shed (ob := ob) (h' := h₃) (fun _ q => .inl q) a.fsIn (fun b o z e => hk₃ b o (fun q => a.ev.badD b (.inl (z (.inr q))) (q ▸ hC)) e)
      refine hQ _ _ a'' ⟨h₃, tk₂, rfl, ?_⟩
      exact {
        keep := fun b o hb e => by
          have hbC : b ≠ C := fun q => by rw [q, hC] at e; cases e
          obtain ⟨k1, sl, k2⟩ := r.keep b o hb e
          exact ⟨fun q => hk₃ b o hbC (k1 q), sl, hk₃ b _ hbC k2⟩
        nb := r.nb
        dom := fun b e => dom₃ b (fun q => e (q ▸ hC)) (r.dom b e) }
    cases own with
    | false => exact fin none (fun _ => rfl) (fun q => by cases q)
    | true => exact fin (some D) (fun q => by cases q) (fun _ => rfl)
theorem no_swap {v : Expr} {o i : Expr} {p' : Pos} {n : Nat} {env : Env} : swapsWith v (some (.Subscript o i p')) n env = pure false := by
  cases v <;> rfl
theorem DenI.set : ∀ {xs : List Int} {vs : List Value} (k : Nat) (n : Int) (t : Tok), DenI xs vs → DenI (xs.set k n) (vs.set k (.int n t))
  | [], vs, k, n, t, h => by simp only [DenI] at h; subst h; simp [DenI]
  | x :: r, vs, k, n, t, h => by
    simp only [DenI] at h
    obtain ⟨t', w, rfl, hr⟩ := h
    cases k with
    | zero => simp only [List.set_cons_zero, DenI]; exact ⟨t, w, rfl, hr⟩
    | succ k => simp only [List.set_cons_succ, DenI]; exact ⟨t', _, rfl, hr.set k n t⟩
theorem DenL.set {h : Heap} {bad : Addr → Prop} : ∀ {xs : List AV} {vs : List Value} (k : Nat) {x : AV} {v : Value}, DenL c h bad xs vs → Den c h bad x v → DenL c h bad (xs.set k x) (vs.set k v)
  | [], vs, k, x, v, h, _ => by simp only [DenL] at h; subst h; simp [DenL]
  | y :: r, vs, k, x, v, h, hv => by
    simp only [DenL] at h
    obtain ⟨u, w, rfl, hd, hr⟩ := h
    cases k with
    | zero => simp only [List.set_cons_zero, DenL]; exact ⟨v, w, rfl, hv, hr⟩
    | succ k => simp only [List.set_cons_succ, DenL]; exact ⟨u, _, rfl, hd, hr.set k hv⟩
theorem dset_new {k n : Int} : ∀ {es : List (Int × Int)}, (∀ p ∈ es, p.1 ≠ k) → dset es k n = es ++ [(k, n)]
  | [], _ => rfl
  | (a, b) :: r, h => by
    simp only [dset]
    rw [if_neg (h (a, b) List.mem_cons_self), dset_new fun p hp => h p (List.mem_cons_of_mem _ hp)]; rfl
theorem dset_old {k n : Int} : ∀ {es : List (Int × Int)}, (es.map (·.1)).Nodup → (∃ p ∈ es, p.1 = k) → dset es k n = es.map fun p => if p.1 = k then (p.1, n) else p
  | [], _, h => by obtain ⟨p, hp, _⟩ := h; cases hp
  | (a, b) :: r, hn, h => by
    simp only [dset, List.map_cons]
    rw [List.map_cons, List.nodup_cons] at hn
    by_cases q : a = k
    · subst q
      rw [if_pos rfl, if_pos rfl]
      congr 1
      symm
      have : ∀ l : List (Int × Int), a ∉ l.map (·.1) → l.map (fun p => if p.1 = a then (p.1, n) else p) = l := by
        intro l hl
        induction l with
        | nil => rfl
        | cons p r ih =>
          simp only [List.map_cons, List.mem_cons, not_or] at hl ⊢
          rw [if_neg (fun z => hl.1 z.symm), ih hl.2]
      exact this r hn.1
    · rw [if_neg q, if_neg q]
      congr 1
      refine dset_old hn.2 ?_
      obtain ⟨p, hp, e⟩ := h
      rcases List.mem_cons.mp hp with rfl | hp
      · exact absurd e q
      · exact ⟨p, hp, e⟩
theorem Ap.keys : ∀ {es : List (Int × Int)} {kvs : List (Int × Value)}, Ap es kvs → kvs.map (·.1) = es.map (·.1)
  | [], _, h => by simp only [Ap] at h; subst h; rfl
  | (a, b) :: r, _, h => by
    simp only [Ap] at h
    obtain ⟨t, w, rfl, hr⟩ := h
    simp only [List.map_cons]; rw [hr.keys]
theorem Ap.setAll (k n : Int) (t : Tok) : ∀ {es : List (Int × Int)} {kvs : List (Int × Value)}, Ap es kvs → Ap (es.map fun p => if p.1 = k then (p.1, n) else p) (kvs.map fun p => if p.1 = k then (p.1, .int n t) else p)
  | [], _, h => by simp only [Ap] at h; subst h; simp [Ap]
  | (a, b) :: r, _, h => by
    simp only [Ap] at h
    obtain ⟨t', w, rfl, hr⟩ := h
    simp only [List.map_cons]
    by_cases q : a = k
    · rw [if_pos q, if_pos q]; simp only [Ap]; exact ⟨t, _, rfl, Ap.setAll k n t hr⟩
    · rw [if_neg q, if_neg q]; simp only [Ap]; exact ⟨t', _, rfl, Ap.setAll k n t hr⟩
theorem Ap.snoc (k n : Int) (t : Tok) : ∀ {es : List (Int × Int)} {kvs : List (Int × Value)}, Ap es kvs → Ap (es ++ [(k, n)]) (kvs ++ [(k, .int n t)])
  | [], _, h => by simp only [Ap] at h; subst h; simp [Ap]
  | (a, b) :: r, _, h => by
    simp only [Ap] at h
    obtain ⟨t', w, rfl, hr⟩ := h
    simp only [List.cons_append, Ap]; exact ⟨t', _, rfl, Ap.snoc k n t hr⟩
set_option tactic.hygienic true in
theorem Ap.stored {es : List (Int × Int)} {kvs : List (Int × Value)} (k n : Int) (t : Tok) (hn : (kvs.map (·.1)).Nodup) (h : Ap es kvs) : Ap (dset es k n) (stored kvs k (.int n t)) := by
  have hk := h.keys
  rw [hk] at hn
  unfold PySem.stored
  have mem : ∀ x, x ∈ kvs.map (·.1) ↔ x ∈ es.map (·.1) := fun x => by rw [hk]
  split
  · rename_i q
    simp only [List.any_eq_true, decide_eq_true_eq] at q
    obtain ⟨p, hp, e⟩ := q
    have := (mem k).mp (List.mem_map.mpr ⟨p, hp, e⟩)
    obtain ⟨p', hp', e'⟩ := List.mem_map.mp this
    rw [dset_old hn ⟨p', hp', e'⟩]
    exact h.setAll k n t
  · rename_i q
    simp only [List.any_eq_true, decide_eq_true_eq, not_exists, not_and] at q
    rw [dset_new fun p hp e => by
      have := (mem k).mpr (List.mem_map.mpr ⟨p, hp, e⟩)
      obtain ⟨p', hp', e'⟩ := List.mem_map.mp this
      exact q p' hp' e']
    exact h.snoc k n t
theorem dset_len (es : List (Int × Int)) (k n : Int) : (dset es k n).length ≤ es.length + 1 := by
  induction es with
  | nil => simp [dset]
  | cons p r ih =>
    obtain ⟨a, b⟩ := p
    simp only [dset]
    split
    · simp
    · simp only [List.length_cons]; exact Nat.succ_le_succ ‹_›
set_option tactic.hygienic true in
theorem SS.store {x : Str} {i : Nat} {k v : Expr} {p p₁ p₂ : Pos} {mk mv : ME} (hap : ce.ap.contains i = false) (hd : (x == ("__debug__" : Str)) = false) (hx : ce.vm.lookup x = some i) (hk : SE c d ce false k mk) (hv : SE c d ce true v mv) :
    SS c d ce fq (fun env => exec (.Assign [.Subscript (.Name x p₁) k p₂] v p) env) (.store i mk mv) := fun N A env ob σ ow s o σ' E rm a q hf hE hex => by
  replace q := iQ q
  obtain ⟨xv, kv, vv, q1, q2, q3, q⟩ := q
  replace q := i1 q
  obtain ⟨y, q4, q⟩ := q
  obtain ⟨rfl, rfl⟩ := Prod.mk.inj (Option.some.inj q)
  refine wpAny_Assign_Subscript (wpAny_mono (hv A env σ _ s vv rm a.ev q3) (fun u s₁ h₁ => ?_) fun _ _ q => q.elim) no_swap
  have a₁ := a.kpS h₁.1
  obtain ⟨x', ad, e1, l, e2, _, dd⟩ := a₁.own i xv q1
  have : x = x' := a.inj x x' i hx e1
  subst this
  refine load_var (c := c) a.ev.kind hd l ?_
  refine wpAny_mono (hk A env σ _ s₁ kv rm a₁.ev q2) (fun w s₂ h₂ => ?_) fun _ _ q => q.elim
  have k₀₂ := h₁.1.trans h₂.1
  have dd₂ : DenT c s₂.heap (Ar env ob ow) xv (.ref ad) := DenT.carryTop (.kp h₂.1.heap a.ev.fsb) _ _ dd fun b o e z => by cases e; exact (h₂.1.heap _ o z).1 (owned_fs a e2)
  have du : Den c s₂.heap (Ar env ob ow) vv u := (h₁.2.1.den (h₁.2.2.1 rfl)).kp h₂.1.heap a.ev.fsb
  have dk := h₂.2.1.1
  have hmi : mine env ow ad := .inr (.inr ⟨i, e2⟩)
  have hll := lim_lt
  cases xv <;> first | exact (nS q4).elim | (cases kv <;> first | exact (nS q4).elim | skip)
  · cases vv <;> first | exact (nS q4).elim | skip
    rename_i xs kk n
    obtain ⟨hb, rfl⟩ := iS q4
    simp only [DenT] at dd₂ dk
    obtain ⟨_, vs, e, hl, hz, hdi⟩ := dd₂
    cases e
    obtain ⟨t, rfl⟩ := dk
    have du := du.1
    simp only [DenT] at du
    obtain ⟨t', rfl⟩ := du
    have hlen := hdi.length
    refine wpAny_setItem_list hl hb.1 (by lia) (by rw [List.size_toArray, hlen]; exact hb.2) fun h' hl' hs => ?_
    obtain ⟨a', r⟩ := a.mut (h' := h') (y := .ilist (xs.set kk.toNat n)) k₀₂.heap e2 (fun b o hb' e => hs.extBut b o hb' e) (by
      simp only [DenT]
      exact ⟨ad, vs.set kk.toNat (.int n t'), rfl, by simpa using hl', by simpa using hz, hdi.set _ _ _⟩) (fun z => by first | exact (nN (hap) z).elim | (rw [hap] at z; cases z))
    exact ⟨ow, rfl, a', Gb (tk := s₂.toks) k₀₂ r⟩
  · rename_i xs kk
    obtain ⟨hb, rfl⟩ := iS q4
    simp only [DenT] at dd₂ dk
    obtain ⟨_, vs, e, hl, hz, hdi⟩ := dd₂
    cases e
    obtain ⟨t, rfl⟩ := dk
    have hlen := hdi.length
    refine wpAny_setItem_list hl hb.1 (by lia) (by rw [List.size_toArray, hlen]; exact hb.2) fun h' hl' hs => ?_
    have cy : Eo s₂.heap h' (Ar env ob ow) (Ar env ob ow) := ⟨fun b o hb e => hs.extBut b o (fun z => hb (.inr (z ▸ hmi))) e, fun _ hb _ => hb⟩
    obtain ⟨a', r⟩ := a.mut (h' := h') (y := .list (xs.set kk.toNat vv)) k₀₂.heap e2 (fun b o hb' e => hs.extBut b o hb' e) (by
      simp only [DenT]
      exact ⟨ad, vs.set kk.toNat u, rfl, by simpa using hl', by simpa using hz, DenL.carry cy _ _ (hdi.set _ du)⟩) (fun z => by first | exact (nN (hap) z).elim | (rw [hap] at z; cases z))
    exact ⟨ow, rfl, a', Gb (tk := s₂.toks) k₀₂ r⟩
  · cases vv <;> first | exact (nS q4).elim | skip
    rename_i es kk n
    obtain ⟨hb, rfl⟩ := iS q4
    simp only [DenT] at dd₂ dk
    obtain ⟨_, kvs, e, hl, hz, hdi, h0⟩ := dd₂
    cases e
    obtain ⟨t, rfl⟩ := dk
    have du := du.1
    simp only [DenT] at du
    obtain ⟨t', rfl⟩ := du
    have hlen := hdi.length
    have hline := Em
    refine wpAny_setItem_pairs (knd := intKind c.prog c.w) (Kn c kk t) hl (fun h' hl' hs => ?_) (by with_reducible exact (ZA ‹_› ‹_› ‹_›))
    have hlen' := dset_len es kk n
    obtain ⟨a', r⟩ := a.mut (h' := h') (y := .dict (dset es kk n)) k₀₂.heap e2 (fun b o hb' e => hs.extBut b o hb' e) (by
      simp only [DenT]
      exact ⟨ad, _, rfl, hl', by lia, hdi.stored _ _ _ (by obtain ⟨_, _, _, _, _, _, _, _, hnd⟩ := hl; exact hnd), h0⟩) (fun z => by first | exact (nN (hap) z).elim | (rw [hap] at z; cases z))
    exact ⟨ow, rfl, a', Gb k₀₂ r⟩
theorem quiet_env {env : Env} (h : env.scope.kind = .function) : interactive env = false := by unfold interactive; rw [h]; rfl
set_option tactic.hygienic true in
theorem SS.append {x : Str} {i : Nat} {v : Expr} {p p₁ p₂ apos : Pos} {mv : ME} (hap : ce.ap.contains i = true) (hl : (apos.endLine == p₂.line) = true) (hd : (x == ("__debug__" : Str)) = false) (hst : Ai v = true) (hx : ce.vm.lookup x = some i) (hv : SE c d ce true v mv) :
    SS c d ce fq (fun env => exec (.Expr (.Call (.Attribute (.Name x p₁) ("append" : Str) apos) [v] [] p₂) p) env) (.append i mv) := fun N A env ob σ ow s o σ' E rm a q hf hE hex => by
  replace q := iP q
  obtain ⟨xv, vv, q1, q3, q⟩ := q
  replace q := i1 q
  obtain ⟨y, q4, q⟩ := q
  obtain ⟨rfl, rfl⟩ := Prod.mk.inj (Option.some.inj q)
  refine wpAny_Expr_any ?_ (quiet_env a.ev.kind) rfl
  obtain ⟨x', ad, e1, l, e2, nd, dd⟩ := a.own i xv q1
  have : x = x' := a.inj x x' i hx e1
  subst this
  have hmi : mine env ow ad := .inr (.inr ⟨i, e2⟩)
  have hlst : ∃ vs ys, s.heap.IsList ad (List.toArray vs) ∧ Ff xv = some ys ∧ ys.length ≤ LIM ∧ DenL c s.heap (Ar env ob ow) ys vs ∧ ys.length < LIM := by
    cases xv <;> first | exact (nS q4).elim | skip
    · rename_i xs
      have hlt : xs.length < LIM := by cases vv <;> exact (iS q4).1
      simp only [DenT] at dd
      obtain ⟨_, vs, e, hl, hz, hdi⟩ := dd
      cases e
      exact ⟨vs, _, hl, rfl, by simpa using hz, hdi.denL, by simpa using hlt⟩
    · simp only [DenT] at dd
      obtain ⟨_, vs, e, hl, hz, hdi⟩ := dd
      cases e
      exact ⟨vs, _, hl, rfl, hz, hdi, (iS q4).1⟩
  obtain ⟨vs, ys, hli, hit, hyl, hden, hlt⟩ := hlst
  refine wpAny_Call_method (T := "list") (id := "list.append") rfl (by rw [Ao hst]; rfl) hl F.plainAttrs_list F.slot_list_append F.type_list_append (load_var (c := c) a.ev.kind hd l ⟨hli.typeIs, fun b e => ?_, ?_⟩)
  · cases e; exact nd hap
  · rw [Ao hst]
    refine Calls.callWith_builtin rfl (Calls.evalArgs_plain (Calls.spliced_cons (wpAny_mono (hv A env σ _ s vv rm a.ev q3) (fun u s₁ h₁ => Calls.spliced_nil ?_) fun _ _ q => q.elim)))
    have k := h₁.1
    have hnf := owned_fs a e2
    have hli₁ : s₁.heap.IsList ad vs.toArray := hli.at fun o e => (k.heap ad o e).1 hnf
    have hden₁ := hden.kp k.heap a.ev.fsb
    have du : Den c s₁.heap (Ar env ob ow) vv u := h₁.2.1.den (h₁.2.2.1 rfl)
    have hline := Em
    have hvl := hden.length
    have hpl : PlainL s₁.heap ad vs.toArray := by
      obtain ⟨o, ho, hc, n, hdd⟩ := hli₁
      obtain ⟨o', ho', hnd⟩ := (nd hap).kp k.heap
      rw [ho] at ho'; cases ho'
      exact ⟨o, n, ho, hc, hnd, hdd⟩
    refine list_append_plainL hpl (fun h' hpl' hs => ?_) (by rw [List.size_toArray]; with_reducible exact (ZA ‹_› ‹_› ‹_›))
    have hl' := hpl'.isList
    have nd' : ND h' ad := by obtain ⟨o, n, ho, _, hnd, _⟩ := hpl'; exact ⟨o, ho, hnd⟩
    have cy : Eo s₁.heap h' (Ar env ob ow) (Ar env ob ow) := ⟨fun b o hb e => hs.extBut b o (fun z => hb (.inr (z ▸ hmi))) e, fun _ hb _ => hb⟩
    have hl'' : h'.IsList ad (vs ++ [u]).toArray := by simpa using hl'
    have hd' : DenL c h' (Ar env ob ow) (ys ++ [vv]) (vs ++ [u]) := DenL.carry cy _ _ (hden₁.append (by simp only [DenL]; exact ⟨u, [], rfl, du, rfl⟩))
    have dy : DenT c h' (Ar env ob ow) y (.ref ad) := by
      cases xv <;> first | exact (nS q4).elim | skip
      · rename_i xs
        simp only [Ff] at hit; cases hit
        by_cases hn : ∃ n, vv = .int n
        · obtain ⟨n, rfl⟩ := hn
          obtain rfl := (iS q4).2
          simp only [DenT]
          refine ⟨ad, _, rfl, hl'', by simp at hlt ⊢; exact Nat.succ_le_of_lt ‹_›, DenI.of_denL (c := c) (h := h') (bad := Ar env ob ow) ?_ hd'⟩
          have : ∀ (l : List Int) (m : Int), Hk (l.map AV.int ++ [.int m]) = some (l ++ [m]) := by
            intro l m
            induction l with
            | nil => rfl
            | cons a r ih => rw [List.map_cons, List.cons_append, io_c, ih]; rfl
          exact this xs n
        · have : .list (xs.map .int ++ [vv]) = y := by cases vv <;> first | exact absurd ⟨_, rfl⟩ hn | exact (iS q4).2
          subst this
          simp only [DenT]
          exact ⟨ad, _, rfl, hl'', by simp at hlt ⊢; exact Nat.succ_le_of_lt ‹_›, hd'⟩
      · obtain rfl := (iS q4).2
        simp only [Ff] at hit; cases hit
        simp only [DenT]
        exact ⟨ad, _, rfl, hl'', by simp at hlt ⊢; exact Nat.succ_le_of_lt ‹_›, hd'⟩
    obtain ⟨a', r⟩ := a.mut (h' := h') (y := y) k.heap e2 (fun b o hb' e => hs.extBut b o hb' e) dy (fun _ => nd')
    exact ⟨ow, rfl, a', Gb (tk := s₁.toks) k r⟩
theorem SS.raise {x : Str} {t : Str} {k : Nat} {p p₁ p₂ p₃ : Pos} (ok : c.Ok) (hg : ce.glob x = some (.ty "ValueError")) :
    SS c d ce fq (fun env => exec (.Raise (some (.Call (.Name x p₁) [.Constant (.str t) k p₂] [] p₃)) none p) env) .raise := fun N A env ob σ ow s o σ' E rm a q hf hE hex => by
  simp only [K2] at q; cases q
  refine wpAny_Raise_call PySem.F.excCall_ValueError PySem.F.excRaise_ValueError rm.handled rfl (Et ok a.ev hg (Be hg) fun u m => ?_)
  simp only [Hy] at m
  refine ⟨m, Calls.evalArgs_plain (Calls.spliced_cons (wpAny_Constant_str (k := k) (pos := p₂) (Calls.spliced_nil ⟨rfl, by simp [sizeLine], fun h' e hm => ?_⟩)))⟩
  exact hex rfl { s with toks := s.toks + 1 } h' e _ ow a (RelS.kp (.tok ..)) hm.of
end
end Mine
end
section
open PySem PyProof.Rows PySem.SeqAt
namespace Mine
set_option tactic.hygienic false
set_option autoImplicit false
theorem Ko : ∀ (fs : List Addr) {h : Heap} {b : Addr} {o : Obj}, h.get? b = some o → b ∉ fs → (Go h fs).get? b = some o
  | [], h, b, o, e, _ => e
  | a :: r, h, b, o, e, hb => by
    show (Go (h.hide a) r).get? b = some o
    exact Ko r (by rw [Heap.hide_ne h (fun q => hb (by rw [q]; exact List.mem_cons_self))]; exact e) fun q => hb (List.mem_cons_of_mem _ q)
theorem Jy : ∀ (fs : List Addr) {h : Heap} {b : Addr} {o : Obj}, (Go h fs).get? b = some o → h.get? b = some o
  | [], h, b, o, e => e
  | a :: r, h, b, o, e => Heap.of_hide (Jy r (show (Go (h.hide a) r).get? b = some o from e))
theorem Id : ∀ (fs : List Addr) {h : Heap} {b : Addr}, b ∈ fs → (Go h fs).get? b = none
  | [], h, b, hb => by cases hb
  | a :: r, h, b, hb => by
    show (Go (h.hide a) r).get? b = none
    rcases List.mem_cons.mp hb with rfl | hb
    · cases q : (Go (h.hide b) r).get? b with
      | none => rfl
      | some o => have := Jy r q; rw [Heap.hide_self] at this; cases this
    · exact Id r hb
section
variable {c : Cx} {d : Nat} {ce : CE} {fq : Bool} {A : Around} {env : Env} {ob ob' : Addr → Prop} {ow ow₁ : Nat → Option Addr} {s s₁ : Shared} {o : Out} {σ' : St}
theorem Done.weaken {f : Flow} {s' : Shared} (hb : ∀ b, ob b → ob' b) (hf : ∀ b ∈ Ac A, ob b ∨ b = env.locals) (x : Done c A ce env ob' fq ow s o σ' f s') : Done c A ce env ob fq ow s o σ' f s' := by
  cases o with
  | exc => exact x
  | ret av =>
    obtain ⟨v, ow', h1, h2, h3, h4, h5⟩ := x
    exact ⟨v, ow', h1, h2, DenT.carryTop (bad' := ob) ⟨fun _ _ _ e => e, fun b q _ q' => q (hb b q')⟩ _ _ h3 fun _ _ _ e => e, fun b e => ⟨fun q => (h4 b e).1 (hb b q), (h4 b e).2⟩, h5⟩
  | next => obtain ⟨ow', h1, h2, h3⟩ := x; exact ⟨ow', h1, h2.weaken hb hf, h3⟩
  | brk => obtain ⟨ow', h1, h2, h3⟩ := x; exact ⟨ow', h1, h2.weaken hb hf, h3⟩
  | cont => obtain ⟨ow', h1, h2, h3⟩ := x; exact ⟨ow', h1, h2.weaken hb hf, h3⟩
theorem ExcTo.weaken {E : Value → Shared → Prop} (hb : ∀ b, ob b → ob' b) (hf : ∀ b ∈ Ac A, ob b ∨ b = env.locals) (x : ExcTo c A ce env ob ow s o σ' E) : ExcTo c A ce env ob' ow s o σ' E :=
  fun q s₂ h' ea args ow' a' r' m => x q s₂ h' ea args ow' (a'.weaken hb hf) r' m
theorem Rel.carry {fs : List Addr} {h h' : Heap} (hf : ∀ b ∈ fs, Ar env ob ow b) (r : Rel fs (mine env ow) (mine env ow₁) h h') : Eo h h' (Ar env ob ow) (Ar env ob ow₁) :=
  ⟨fun b o hb e => (r.keep b o (fun q => hb (.inr q)) e).1 fun q => hb (hf b q), fun b hb e q => q.elim (fun q => hb (.inl q)) fun q => r.nb b (fun z => hb (.inr z)) e q⟩
theorem store_all {M : Model} {E : Value → Shared → Prop} : ∀ {xs : List Str} {is : List Nat} {vs : List AV} {ws : List Value} {σ σ₁ : St} {ow : Nat → Option Addr} {s : Shared} {Q : Shared → Prop},
    mapO (fun x => ce.vm.lookup x) xs = some is → Act c A ce env ob σ ow s.heap → DenL c s.heap (Ar env ob ow) vs ws → setTgt σ is vs = some σ₁ → (∀ ow' s', Act c A ce env ob σ₁ ow' s'.heap → RelS (Ac A) (mine env ow) (mine env ow') s s' → Q s') →
    Hw M A env E xs ws Q s
  | [], is, vs, ws, σ, σ₁, ow, s, Q, hm, a, hd, ht, hQ => by
    obtain rfl := Option.some.inj hm
    cases vs with
    | nil => obtain rfl := Option.some.inj ht; exact hQ ow s a .refl
    | cons v r => exact (nS ht).elim
  | x :: xs, is, vs, ws, σ, σ₁, ow, s, Q, hm, a, hd, ht, hQ => by
    obtain ⟨i, is, h1, h2, rfl⟩ := mo_c hm
    cases vs with
    | nil => exact (nS ht).elim
    | cons v vs =>
      simp only [DenL] at hd
      obtain ⟨w, ws, rfl, hv, hr⟩ := hd
      show wpAny M A (storeName env x w) (fun _ s' => Hw M A env E xs ws Q s') E s
      refine Hf a h1 fun h' tk put => ?_
      have hnf : ∀ b, w = .ref b → b ∉ Ac A := fun b e q => hv.2 b e (a.ev.fsb b q)
      obtain ⟨a', r⟩ := a.put (own := false) (na := none) (Kp.refl _ _) put h1 hv.1 hnf (fun _ => ⟨rfl, hv.2⟩) (fun q => by cases q) (fun q => by cases q)
      have rs : RelS (Ac A) (mine env ow) (mine env (Fh ow i none)) s { s with heap := h', toks := tk } := ⟨h', tk, rfl, r⟩
      exact store_all (s := { s with heap := h', toks := tk }) h2 a' (DenL.carry (r.carry a.ev.fsb) _ _ hr) ht fun ow' s' a'' r' => hQ ow' s' a'' (rs.trans r')
inductive WhI (c : Cx) (A : Around) (ce : CE) (env : Env) (ob : Addr → Prop) (ow : Nat → Option Addr) (s : Shared) (go : Nat → St → Option (Out × St)) (r : Out × St) (k : Nat) (s' : Shared) : Prop where
  | mk (σ₁ : St) (ow₁ : Nat → Option Addr) (a : Act c A ce env ob σ₁ ow₁ s'.heap) (r₁ : RelS (Ac A) (mine env ow) (mine env ow₁) s s') (e : go k σ₁ = some r)
theorem SS.while {t : Expr} {b : List Stmt} {p : Pos} {m : ME} {mb : MS} (ht : SB c d ce t m) (hb : SS c d ce fq (fun env => execs b env) mb) : SS c d ce fq (fun env => exec (.While t b [] p) env) (.while m mb) := fun N A env ob σ ow s o σ' E rm a e hf hE hx => by
  simp only [J9] at e
  have hf1 : fq = true → As c.fresh mb = true := fun q => hf q
  refine wpAny_While (codeAny_whileLoop (WhI c A ce env ob ow s (Dz (Bb c.G c.F m) (Ah c.G c.F N mb)) (o, σ')) ?_ N ⟨σ, ow, a, .refl, e⟩)
  rintro k s₁ ⟨σ₁, ow₁, a₁, r₁, e₁⟩
  cases k with
  | zero => simp [w_zero] at e₁
  | succ k =>
    simp only [Jf] at e₁
    cases q1 : Bb c.G c.F m σ₁ with
    | none => rw [q1] at e₁; cases e₁
    | some t' =>
      rw [q1] at e₁
      refine wpAny_mono (ht A env σ₁ _ s₁ t' rm a₁.ev q1) (fun t'' s₂ h₂ => ?_) fun _ _ q => q.elim
      obtain ⟨rfl, k₂⟩ := h₂
      have a₂ := a₁.kpS k₂
      have r₂ : RelS (Ac A) (mine env ow) (mine env ow₁) s s₂ := r₁.trans (.kp k₂)
      cases t'' with
      | false =>
        rw [if_neg (by simp)]
        cases e₁
        exact wpAny_execs_nil ⟨ow₁, rfl, a₂, r₂⟩
      | true =>
        rw [if_pos rfl]
        dsimp only at e₁
        cases q2 : Ah c.G c.F N mb σ₁ with
        | none => rw [q2] at e₁; cases e₁
        | some pr =>
          obtain ⟨o₂, σ₂⟩ := pr
          rw [q2] at e₁
          cases o₂ with
          | next =>
            refine wpAny_passesOwn hE (wpAny_mono (hb N A env ob σ₁ ow₁ s₂ .next σ₂ E rm a₂ q2 hf1 hE (fun q => by cases q)) (fun f s₃ x => ?_) fun _ _ q => q)
            obtain ⟨ow₃, rfl, a₃, r₃⟩ := x
            exact ⟨k, Nat.lt_succ_self _, σ₂, ow₃, a₃, r₂.trans r₃, e₁⟩
          | cont =>
            refine wpAny_passesOwn hE (wpAny_mono (hb N A env ob σ₁ ow₁ s₂ .cont σ₂ E rm a₂ q2 hf1 hE (fun q => by cases q)) (fun f s₃ x => ?_) fun _ _ q => q)
            obtain ⟨ow₃, rfl, a₃, r₃⟩ := x
            exact ⟨k, Nat.lt_succ_self _, σ₂, ow₃, a₃, r₂.trans r₃, e₁⟩
          | brk =>
            cases e₁
            refine wpAny_passesOwn hE (wpAny_mono (hb N A env ob σ₁ ow₁ s₂ .brk _ E rm a₂ q2 hf1 hE (fun q => by cases q)) (fun f s₃ x => ?_) fun _ _ q => q)
            obtain ⟨ow₃, rfl, a₃, r₃⟩ := x
            exact ⟨ow₃, rfl, a₃, r₂.trans r₃⟩
          | ret av =>
            cases e₁
            refine wpAny_passesOwn hE (wpAny_mono (hb N A env ob σ₁ ow₁ s₂ (.ret av) _ E rm a₂ q2 hf1 hE (fun q => by cases q)) (fun f s₃ x => ?_) fun _ _ q => q)
            have x' := x.after r₂
            obtain ⟨v, ow₃, rfl, _⟩ := x
            exact x'
          | exc =>
            cases e₁
            exact wpAny_passesOwn hE (wpAny_mono (hb N A env ob σ₁ ow₁ s₂ .exc _ E rm a₂ q2 hf1 hE (hx.after r₂)) (fun f s₃ x => x.elim) fun _ _ q => q)
inductive ForI (c : Cx) (A : Around) (ce : CE) (env : Env) (ob' : Addr → Prop) (ow : Nat → Option Addr) (s₀ : Shared) (n : Nat) (St' : Nat → Heap → Prop) (fp : List Addr) (go : Nat → St → Option (Out × St)) (r : Out × St) (k : Nat) (s' : Shared) : Prop where
  | mk (h' : Heap) (tk : Nat) (σ₁ : St) (ow₁ : Nat → Option Addr) (i : Nat) (e : s' = { s₀ with heap := h', toks := tk }) (hi : i ≤ n) (hk : k = n + 1 - i) (st : St' i h') (a : Act c A ce env ob' σ₁ ow₁ h') (r₁ : Rel (Ac A) (mine env ow) (mine env ow₁) s₀.heap h') (hm : ∀ b ∈ fp, ¬ mine env ow₁ b) (hgo : go i σ₁ = some r)
theorem SS.for {tgt it : Expr} {b : List Stmt} {p : Pos} {xs : List Str} {is : List Nat} {mi : ME} {mb : MS} (hxs : Bf tgt = some xs) (his : mapO (fun x => ce.vm.lookup x) xs = some is) (hi : SI c d ce true it mi) (hu : Hc it) (hb : SS c d ce fq (fun env => execs b env) mb) :
    SS c d ce fq (fun env => exec (.For tgt it b [] p) env) (.for is mi mb) := fun N A env ob σ ow s o σ' E rm a e hf hE hx => by
  have hf1 : fq = true → As c.fresh mb = true := fun q => hf q
  replace e := i1 e
  obtain ⟨src, q1, e⟩ := e
  replace e := iL e
  obtain ⟨ys, q2, e⟩ := e
  · · refine wpAny_For (wpAny_mono (hi A env σ _ s src ys tgt rm a.ev q1 q2) (fun x s₁ h₁ => wpAny_mono h₁ (fun itv s₂ h₂ => ?_) fun _ _ q => q.elim) fun _ _ q => q.elim) (hu env)
      obtain ⟨s₀, k₀, I, fp, wr, D, St', rfl, T, hst, k₂, hwr, hfpfs, hfpb, hfpd, hD⟩ := h₂
      have hfpb := hfpb rfl
      have a₀ := a.kpS k₀
      have hlen : is.length = xs.length := Jo his
      let ob' : Addr → Prop := fun b => ob b ∨ b ∈ wr
      have hob : ∀ b, ob b → ob' b := fun b q => .inl q
      have hwrd : ∀ b ∈ wr, s₂.heap.get? b ≠ none := fun b q => hfpd b (T.sub b q)
      have a₂ : Act c A ce env ob' σ ow s₂.heap := a₀.more k₂.heap hob (fun b q e => q.elim id fun q => absurd (hwr b q) e) fun b q => q.elim (fun q => k₂.heap.stay (a₀.ev.badD b (.inl q))) (hwrd b)
      obtain ⟨h₂, tk₂, rfl, kk₂⟩ := k₂
      refine codeAny_forLoop_any (ForI c A ce env ob' ow s₀ ys.length St' fp (fun i => Dy is (Ah c.G c.F N mb) (ys.drop i)) (o, σ')) ?_ (ys.length + 1) ⟨h₂, tk₂, σ, ow, 0, rfl, Nat.zero_le _, rfl, hst, a₂, .kp kk₂, fun b hb' q => hfpb b hb' (.inr q), by simpa using e⟩
      rintro k s₁' ⟨h', tk, σ₁, ow₁, i, rfl, hi', rfl, st, a₁, r₁, hmi, hgo⟩
      by_cases hlt : i < ys.length
      · refine T.use hlt st (fun _ _ h => h) fun val h₃ tk₃ hDv st₃ hk₃ => ?_
        -- the state after the step of the iterator
        have hwrfs : ∀ b ∈ wr, b ∉ Ac A := fun b q => hfpfs b (T.sub b q)
        have dom₃ : ∀ b, h'.get? b ≠ none → h₃.get? b ≠ none := fun b e => by
          by_cases hw : b ∈ wr
          · exact T.there _ _ st₃ b (T.sub b hw)
          · exact Fq e fun o q => ⟨_, hk₃ b o hw q⟩
        have a₃ : Act c A ce env ob' σ₁ ow₁ h₃ := a₁.outer (fun b o z e => hk₃ b o (fun q => hwrfs b q (z (.inr q))) e) dom₃
        have r₃ : Rel (Ac A) (mine env ow) (mine env ow₁) s₀.heap h₃ := {
          keep := fun b o hb' e => by
            have hw : b ∉ wr := fun q => by first | exact (nN (hwr b q) e).elim | (rw [hwr b q] at e; cases e)
            obtain ⟨x1, sl, x2⟩ := r₁.keep b o hb' e
            exact ⟨fun q => hk₃ b o hw (x1 q), sl, hk₃ b _ hw x2⟩
          nb := r₁.nb
          dom := fun b e => dom₃ b (r₁.dom b e) }
        have cy : Eo s₀.heap h₃ (Ar env ob ow) (Ar env ob' ow₁) := ⟨fun b o hb' e => (r₃.keep b o (fun q => hb' (.inr q)) e).1 fun q => hb' (a.ev.fsb b q), fun b hb' e q => by
          rcases q with (q | q) | q
          · exact hb' (.inl q)
          · exact e (hwr b q)
          · exact r₃.nb b (fun z => hb' (.inr z)) e q⟩
        obtain ⟨y, hy, dy, ny⟩ := hD i val h₃ _ cy hDv
        have hdrop : ys.drop i = y :: ys.drop (i + 1) := by
          rw [List.drop_eq_getElem_cons hlt]
          congr 1
          rw [List.getElem?_eq_getElem hlt] at hy; exact Option.some.inj hy
        rw [hdrop] at hgo
        simp only [f_cons, hlen] at hgo
        cases qb : Gf xs.length y with
        | none => rw [qb] at hgo; cases hgo
        | some vs =>
          rw [qb] at hgo
          dsimp only at hgo
          cases qs : setTgt σ₁ is vs with
          | none => rw [qs] at hgo; cases hgo
          | some σ₂ =>
            rw [qs] at hgo
            dsimp only at hgo
            obtain ⟨ws, hws, hwl, hasg⟩ := tgt_ok (A := A) hxs qb dy ny rm.handled
            refine hasg _ _ _ _ rfl fun h₄ hk₄ => ?_
            have kp₄ : Kp (Ac A) h₃ h₄ := .of hk₄
            refine store_all (s := { s₀ with heap := h₄, toks := tk₃ }) his (a₃.kp kp₄) (hws.kp kp₄ a₃.ev.fsb) qs fun ow₅ s₅ a₅ r₅ => ?_
            have r₃₅ : Rel (Ac A) (mine env ow₁) (mine env ow₅) h₃ s₅.heap := (Rel.kp kp₄).trans r₅.heap
            have fp₅ : ∀ b ∈ fp, ¬ mine env ow₅ b := fun b hb' => r₃₅.nb b (hmi b hb') (T.there _ _ st₃ b hb')
            have st₅ : St' (i + 1) s₅.heap := T.frame _ _ _ st₃ fun b hb' o e => (r₃₅.keep b o (hmi b hb') e).1 (hfpfs b hb')
            have r₀₅ := r₃.trans r₃₅
            have rs₅ : RelS (Ac A) (mine env ow) (mine env ow₅) s s₅ := by
              have : RelS (Ac A) (mine env ow) (mine env ow₅) s₀ s₅ := by
                obtain ⟨h₅, tk₅, rfl, _⟩ := r₅
                exact ⟨h₅, tk₅, rfl, r₀₅⟩
              exact (RelS.kp k₀).trans this
            cases q3 : Ah c.G c.F N mb σ₂ with
            | none => rw [q3] at hgo; cases hgo
            | some pr =>
              obtain ⟨o₃, σ₃⟩ := pr
              rw [q3] at hgo
              have again : ∀ f s₆, (∃ ow', f = f ∧ Act c A ce env ob' σ₃ ow' s₆.heap ∧ RelS (Ac A) (mine env ow₅) (mine env ow') s₅ s₆) → Dy is (Ah c.G c.F N mb) (ys.drop (i + 1)) σ₃ = some (o, σ') →
                  ∃ m, m < ys.length + 1 - i ∧ ForI c A ce env ob' ow s₀ ys.length St' fp (fun i => Dy is (Ah c.G c.F N mb) (ys.drop i)) (o, σ') m s₆ := fun (f : Unit) s₆ hq hg => by
                obtain ⟨ow₆, _, a₆, r₆⟩ := hq
                have rr := r₆.heap
                obtain ⟨h₅, tk₅, rfl, _⟩ := r₅
                obtain ⟨h₆, tk₆, rfl, _⟩ := r₆
                refine ⟨ys.length + 1 - (i + 1), by lia, h₆, tk₆, σ₃, ow₆, i + 1, rfl, hlt, rfl, ?_, a₆, r₀₅.trans rr, fun b hb' => ?_, hg⟩
                · exact T.frame _ _ _ st₅ fun b hb' o e => (rr.keep b o (fp₅ b hb') e).1 (hfpfs b hb')
                · exact rr.nb b (fp₅ b hb') (r₃₅.dom b (T.there _ _ st₃ b hb'))
              cases o₃ with
              | next =>
                refine wpAny_passesOwn hE (wpAny_mono (hb N A env ob' σ₂ ow₅ s₅ .next σ₃ E rm a₅ q3 hf1 hE (fun q => by cases q)) (fun f s₆ x => ?_) fun _ _ q => q)
                obtain ⟨ow₆, rfl, a₆, r₆⟩ := x
                exact again () s₆ ⟨ow₆, rfl, a₆, r₆⟩ hgo
              | cont =>
                refine wpAny_passesOwn hE (wpAny_mono (hb N A env ob' σ₂ ow₅ s₅ .cont σ₃ E rm a₅ q3 hf1 hE (fun q => by cases q)) (fun f s₆ x => ?_) fun _ _ q => q)
                obtain ⟨ow₆, rfl, a₆, r₆⟩ := x
                exact again () s₆ ⟨ow₆, rfl, a₆, r₆⟩ hgo
              | brk =>
                cases hgo
                refine wpAny_passesOwn hE (wpAny_mono (hb N A env ob' σ₂ ow₅ s₅ .brk _ E rm a₅ q3 hf1 hE (fun q => by cases q)) (fun f s₆ x => ?_) fun _ _ q => q)
                obtain ⟨ow₆, rfl, a₆, r₆⟩ := x
                exact ⟨ow₆, rfl, a₆.weaken hob a.fsIn, rs₅.trans r₆⟩
              | ret av =>
                cases hgo
                refine wpAny_passesOwn hE (wpAny_mono (hb N A env ob' σ₂ ow₅ s₅ (.ret av) _ E rm a₅ q3 hf1 hE (fun q => by cases q)) (fun f s₆ x => ?_) fun _ _ q => q)
                have x' := (x.after rs₅).weaken hob a.fsIn
                obtain ⟨v, ow₆, rfl, _⟩ := x
                exact x'
              | exc =>
                cases hgo
                exact wpAny_passesOwn hE (wpAny_mono (hb N A env ob' σ₂ ow₅ s₅ .exc _ E rm a₅ q3 hf1 hE ((hx.after rs₅).weaken hob a.fsIn)) (fun f s₆ x => x.elim) fun _ _ q => q)
      · have : i = ys.length := by with_reducible exact (ZE ‹_› ‹_›)
        subst this
        simp only [List.drop_length, f_nil] at hgo
        cases hgo
        refine T.done _ _ _ st fun h₃ tk₃ hk₃ => ?_
        refine wpAny_execs_nil ?_
        have hwrfs : ∀ b ∈ wr, b ∉ Ac A := fun b q => hfpfs b (T.sub b q)
        have a₃ : Act c A ce env ob _ ow₁ h₃ := a₁.shed hob a.fsIn fun b o z e => hk₃ b o (fun q => by
          have := a₀.ev.badD b (.inl (z (.inr q)))
          exact this (hwr b q)) e
        have r₃ : Rel (Ac A) (mine env ow) (mine env ow₁) s₀.heap h₃ := {
          keep := fun b o hb' e => by
            have hw : b ∉ wr := fun q => by first | exact (nN (hwr b q) e).elim | (rw [hwr b q] at e; cases e)
            obtain ⟨x1, sl, x2⟩ := r₁.keep b o hb' e
            exact ⟨fun q => hk₃ b o hw (x1 q), sl, hk₃ b _ hw x2⟩
          nb := r₁.nb
          dom := fun b e => by
            have hw : b ∉ wr := fun q => e (hwr b q)
            have := r₁.dom b e
            cases q : h'.get? b with
            | none => exact absurd q this
            | some o => rw [hk₃ b o hw q]; simp }
        refine ⟨ow₁, rfl, a₃, (RelS.kp k₀).trans ⟨h₃, tk₃, rfl, r₃⟩⟩
end
end Mine
end
section
open PySem PyProof.Rows PySem.SeqAt
namespace Mine
set_option tactic.hygienic false
set_option autoImplicit false
section
variable {c : Cx} {d : Nat} {ce : CE} {fq : Bool}
theorem kp_flying {A : Around} {h h' h'' : Heap} {l : List Env} {ea : Addr} {cls a0 : Value} (fr : FrOk A h) (k : Kp (Ac A) h h') (fl : Heap.FlyingW (Go h (Ac A)) l ea cls a0 h'') (up : h'.UpToSlots h'') : Kp (Ac A) h h'' := fun b o e => by
  by_cases hb : b ∈ Ac A
  · refine ⟨fun q => absurd hb q, ?_⟩
    obtain ⟨_, sl, e'⟩ := k b o e
    unfold Ac at hb
    cases hA : A.frames with
    | none => rw [hA] at hb; simp at hb
    | some l' =>
      rw [hA] at hb
      obtain ⟨env, he, hf⟩ := List.mem_filterMap.mp hb
      obtain ⟨_, L, o', f2, f3, f4⟩ := fr l' hA env he
      rw [f2] at hf; cases hf
      rw [e] at f3; cases f3
      obtain ⟨sl', e''⟩ := up b _ e' f4
      exact ⟨sl', e''⟩
  · have := fl.1 b o (Ko _ e hb)
    exact ⟨fun _ => this, o.slots, this⟩
theorem try_exc {ve x : Str} {j : Nat} {v : Bool} {kk : Nat} {p1 p2 p3 p4 p5 : Pos} {A : Around} {env : Env} {ob : Addr → Prop} {σ : St} {ow : Nat → Option Addr} {s s₁ s' : Shared} {e : Value} {E : Value → Shared → Prop} {Q : Flow → Shared → Prop}
    (ok : c.Ok) (hg : ce.glob ve = some (.ty "ValueError")) (hx : ce.vm.lookup x = some j) (a : Act c A ce env ob σ ow s.heap) (k : KpS (Ac A) s s₁) (hex : ExcPost c A s₁ e s')
    (hQ : ∀ ow' s'', Act c A ce env ob (σ.set j (some (false, .bool v))) ow' s''.heap → RelS (Ac A) (mine env ow) (mine env ow') s s'' → Q .next s'') :
    wpAny (model c.prog c.w) A (noteFrame e env) (fun _ s₂ => wpAny (model c.prog c.w) A (setFlight e none) (fun _ s₃ => wpAny (model c.prog c.w) A (handleBy e env [.ExceptHandler (some (.Name ve p1)) none [.Assign [.Name x p2] (.Constant (.bool v) kk p3) p4] p5]) Q E s₃) E s₂) E s' := by
  obtain ⟨ea, a0, l, h', tk, rfl, hl, rfl, kp, fl⟩ := hex
  obtain ⟨⟨outer, hfr⟩, hfm⟩ := a.top
  rw [hfr] at hl; cases hl
  have a₁ := a.kpS k
  refine wpAny_looks_onW hfr hfm fl fun h₄ held₄ up₄ => ?_
  refine wpAny_landsW held₄ fun h₅ fl₅ up₅ => ?_
  have up₅' := up₄.trans up₅
  have kp₅ : Kp (Ac A) s₁.heap h₅ := kp_flying a₁.ev.fr kp fl₅ up₅'
  obtain ⟨obj, hobj, hcls⟩ := fl₅.there
  refine wpAny_handleBy_builtin (X := "ValueError") (T := "ValueError") (b := true) PySem.F.isExc_ValueError PySem.F.notTuple_ValueError PySem.F.self_ValueError ?_
  refine Et (A := A) (ce := ce) ok (a₁.kp kp₅).ev hg (Be hg) fun u m => ?_
  simp only [Hy] at m
  refine ⟨m, ⟨obj, hobj, hcls⟩, ?_⟩
  rw [if_pos rfl]
  refine lands_againW fl₅ fun h₆ fl₆ up₆ => ?_
  have kp₆ : Kp (Ac A) s₁.heap h₆ := kp_flying a₁.ev.fr kp fl₆ (up₅'.trans up₆)
  have k₆ : KpS (Ac A) s { s₁ with heap := h₆, toks := tk } := k.trans (.mk _ _ _ kp₆)
  refine wpAny_execs_cons (wpAny_Assign_Name (wpAny_Constant_bool ?_) rfl)
  refine Hf (A := A) (s := { s₁ with heap := h₆, toks := tk }) (a₁.kp kp₆) hx fun h₇ tk₇ put => ?_
  obtain ⟨a', r⟩ := a.put (own := false) (na := none) (av := .bool v) k₆.heap put hx (by simp [DenT]) (by intro b e; cases e) (fun _ => ⟨rfl, by intro b e; cases e⟩) (fun q => by cases q) (fun q => by cases q)
  exact wpAny_execs_nil (hQ _ _ a' (Gb k₆ r))
theorem SS.tryA {ve x y : Str} {e : Expr} {es : List Expr} {f : Str} {fi i j : Nat} {fr : Bool} {v : Bool} {kk : Nat} {args : ME} {p p1 p2 p3 p4 p5 p6 p7 p8 p9 : Pos}
    (ok : c.Ok) (hF : ∀ f args r, c.F f args = some r → FnOk c d f args r) (hg : ce.glob ve = some (.ty "ValueError")) (hx : ce.vm.lookup x = some j) (hy : ce.vm.lookup y = some i) (hf : ce.glob f = some (.fn fi fr)) (hst : Ai e = true) (ha : SL c d ce (e :: es) args) :
    SS c d ce fq (fun env => exec (.Try [.Assign [.Name y p6] (.Call (.Name f p7) (e :: es) [] p8) p9] [.ExceptHandler (some (.Name ve p1)) none [.Assign [.Name x p2] (.Constant (.bool v) kk p3) p4] p5] [] [] p) env) (.tryA (some i) fi args j v) :=
  fun N A env ob σ ow s o σ' E rm a q hfq hE hex => by
  replace q := iT q
  obtain ⟨avs, q1, q⟩ := q
  · cases q2 : c.F fi avs with
    | none => rw [q2] at q; cases q
    | some r =>
      rw [q2] at q
      refine wpAny_Try_except (wpAny_execs_cons (wpAny_Assign_Name (wpAny_mono (call_def ok hF p8 p7 (Be hf) hf hst ha rm a.ev q1 q2) (fun u s₁ h₁ => ?_) fun ex s' h => ?_) rfl))
      · obtain ⟨z, rfl, k, dn, n, _⟩ := h₁
        cases q
        refine Hf (a.kpS k) hy fun h' tk put => ?_
        obtain ⟨a', r⟩ := a.put (own := false) (na := none) k.heap put hy dn.1 dn.2 (fun _ => ⟨rfl, n rfl⟩) (fun q => by cases q) (fun q => by cases q)
        exact wpAny_execs_nil (wpAny_execs_nil ⟨_, rfl, a', Gb k r⟩)
      · obtain ⟨s₁, k, rfl, hx'⟩ := h
        cases q
        exact try_exc ok hg hx a k hx' fun ow' s'' a' r => ⟨ow', rfl, a', r⟩
theorem SS.tryE {ve x : Str} {e : Expr} {es : List Expr} {f : Str} {fi j : Nat} {fr : Bool} {v : Bool} {kk : Nat} {args : ME} {p p1 p2 p3 p4 p5 p7 p8 p9 : Pos}
    (ok : c.Ok) (hF : ∀ f args r, c.F f args = some r → FnOk c d f args r) (hg : ce.glob ve = some (.ty "ValueError")) (hx : ce.vm.lookup x = some j) (hf : ce.glob f = some (.fn fi fr)) (hst : Ai e = true) (ha : SL c d ce (e :: es) args) :
    SS c d ce fq (fun env => exec (.Try [.Expr (.Call (.Name f p7) (e :: es) [] p8) p9] [.ExceptHandler (some (.Name ve p1)) none [.Assign [.Name x p2] (.Constant (.bool v) kk p3) p4] p5] [] [] p) env) (.tryA none fi args j v) :=
  fun N A env ob σ ow s o σ' E rm a q hfq hE hex => by
  replace q := iT q
  obtain ⟨avs, q1, q⟩ := q
  · cases q2 : c.F fi avs with
    | none => rw [q2] at q; cases q
    | some r =>
      rw [q2] at q
      refine wpAny_Try_except (wpAny_execs_cons (wpAny_Expr_any (wpAny_mono (call_def ok hF p8 p7 (Be hf) hf hst ha rm a.ev q1 q2) (fun u s₁ h₁ => ?_) fun ex s' h => ?_) (quiet_env a.ev.kind) rfl))
      · obtain ⟨z, rfl, _⟩ := h₁
        cases q
      · obtain ⟨s₁, k, rfl, hx'⟩ := h
        cases q
        exact try_exc ok hg hx a k hx' fun ow' s'' a' r => ⟨ow', rfl, a', r⟩
theorem SS.assignC (ok : c.Ok) {x : Str} {i : Nat} {elt tgt it : Expr} {ifs : List Expr} {scope : Scope} {pp p p' : Pos} {xs : List Str} {me mi mt : ME} (hx : ce.vm.lookup x = some i) (ht : Bf tgt = some xs) (sc : ScOk ce.scope scope xs) (hu : Hc it) (hi : SI c d ce false it mi) (he : SE c d (Bc ce scope xs) true elt me) (hT : ST c d (Bc ce scope xs) ifs mt) :
    SS c d ce fq (fun env => exec (.Assign [.Name x p'] (.ListComp elt [⟨tgt, it, ifs, 0⟩] scope pp) p) env) (.assign i (.comp me xs.length mi mt)) := by
  intro N A env ob σ ow s o σ' E rm a q hf hE hex
  replace q := i1 q
  obtain ⟨av, q1, q⟩ := q
  obtain ⟨rfl, rfl⟩ := Prod.mk.inj (Option.some.inj q)
  exact comp_put false (fun q => by cases q) ok hx ht sc hu hi he hT rm a q1 fun ow' s' a' r => ⟨ow', rfl, a', r⟩
theorem SS.assignFC (ok : c.Ok) {x : Str} {i : Nat} {elt tgt it : Expr} {ifs : List Expr} {scope : Scope} {pp p p' : Pos} {xs : List Str} {me mi mt : ME} (hx : ce.vm.lookup x = some i) (hap : ce.ap.contains i = false) (ht : Bf tgt = some xs) (sc : ScOk ce.scope scope xs) (hu : Hc it) (hi : SI c d ce false it mi) (he : SE c d (Bc ce scope xs) true elt me) (hT : ST c d (Bc ce scope xs) ifs mt) :
    SS c d ce fq (fun env => exec (.Assign [.Name x p'] (.ListComp elt [⟨tgt, it, ifs, 0⟩] scope pp) p) env) (.assignF i (.comp me xs.length mi mt)) := by
  intro N A env ob σ ow s o σ' E rm a q hf hE hex
  replace q := i1 q
  obtain ⟨av, q1, q⟩ := q
  replace q := iS q
  obtain ⟨_, q⟩ := q
  obtain ⟨rfl, rfl⟩ := Prod.mk.inj q
  exact comp_put true (fun _ => hap) ok hx ht sc hu hi he hT rm a q1 fun ow' s' a' r => ⟨ow', rfl, a', r⟩
set_option genCtorIdx false in
inductive JobS where
  | st (s : Stmt)
  | sts (l : List Stmt)
noncomputable abbrev JobS.ctorIdx (x : JobS) : Nat := @JobS.casesOn (fun _ => Nat) x (fun _ => 0) (fun _ => 1)
structure RulesS (cs : CS) (P : JobS → MS → Prop) : Prop where
  nil : P (.sts []) .skip
  cons : ∀ {s r a b} (ha : P (.st s) a) (hb : P (.sts r) b), P (.sts (s :: r)) (.seq a b)
  assign : ∀ {x p' e p i m} (l : List Nat) (hx : cs.vm.lookup x = some i) (hs : Iu e = true) (h : Comp (.ex cs.toCE true e) m), P (.st (.Assign [.Name x p'] e p)) (fzAll l (.assign i m))
  assignF : ∀ {x p' e p i m} (l : List Nat) (hx : cs.vm.lookup x = some i) (hap : cs.ap.contains i = false) (hs : Iu e = true) (hfr : Iz cs.fresh m = true) (h : Comp (.ex cs.toCE true e) m), P (.st (.Assign [.Name x p'] e p)) (fzAll l (.assignF i m))
  assignC : ∀ {x p' elt tgt it ifs scope pp p i xs me mi mt} (l : List Nat) (hx : cs.vm.lookup x = some i) (ht : Bf tgt = some xs) (hsc : Eg cs.scope scope xs = true) (hi : Comp (.it cs.toCE false it) mi) (he : Comp (.ex (Bc cs.toCE scope xs) true elt) me) (hT : Comp (.ts (Bc cs.toCE scope xs) ifs) mt), P (.st (.Assign [.Name x p'] (.ListComp elt [⟨tgt, it, ifs, 0⟩] scope pp) p)) (fzAll l (.assign i (.comp me xs.length mi mt)))
  assignFC : ∀ {x p' elt tgt it ifs scope pp p i xs me mi mt} (l : List Nat) (hx : cs.vm.lookup x = some i) (hap : cs.ap.contains i = false) (ht : Bf tgt = some xs) (hsc : Eg cs.scope scope xs = true) (hi : Comp (.it cs.toCE false it) mi) (he : Comp (.ex (Bc cs.toCE scope xs) true elt) me) (hT : Comp (.ts (Bc cs.toCE scope xs) ifs) mt), P (.st (.Assign [.Name x p'] (.ListComp elt [⟨tgt, it, ifs, 0⟩] scope pp) p)) (fzAll l (.assignF i (.comp me xs.length mi mt)))
  assignL : ∀ {x p' es p'' p i m} (l : List Nat) (hx : cs.vm.lookup x = some i) (h : Comp (.li cs.toCE es) m), P (.st (.Assign [.Name x p'] (.List es p'') p)) (fzAll l (.assignL i m))
  store : ∀ {x p₁ k p₂ v p i mk mv} (l : List Nat) (hap : cs.ap.contains i = false) (hd : (x == ("__debug__" : Str)) = false) (hx : cs.vm.lookup x = some i) (hk : Comp (.ex cs.toCE false k) mk) (hv : Comp (.ex cs.toCE true v) mv), P (.st (.Assign [.Subscript (.Name x p₁) k p₂] v p)) (fzAll l (.store i mk mv))
  append : ∀ {x p₁ meth apos a pos p i m} (l : List Nat) (hm : meth = ("append" : Str)) (hap : cs.ap.contains i = true) (hl : (apos.endLine == pos.line) = true) (hd : (x == ("__debug__" : Str)) = false) (hs : Ai a = true) (hx : cs.vm.lookup x = some i) (h : Comp (.ex cs.toCE true a) m), P (.st (.Expr (.Call (.Attribute (.Name x p₁) meth apos) [a] [] pos) p)) (fzAll l (.append i m))
  ite : ∀ {t b o p m mb mo} (l : List Nat) (ht : Comp (.ex cs.toCE false t) m) (hb : P (.sts b) mb) (ho : P (.sts o) mo), P (.st (.If t b o p)) (fzAll l (.ite m mb mo))
  «while» : ∀ {t b p m mb} (ht : Comp (.ex cs.toCE false t) m) (hb : P (.sts b) mb), P (.st (.While t b [] p)) (.while m mb)
  «for» : ∀ {tgt it b p xs is mi mb} (l : List Nat) (hx : Bf tgt = some xs) (his : mapO (fun x => cs.vm.lookup x) xs = some is) (hi : Comp (.it cs.toCE true it) mi) (hb : P (.sts b) mb), P (.st (.For tgt it b [] p)) (fzAll l (.for is mi mb))
  ret : ∀ {e p m} (l : List Nat) (h : Comp (.ex cs.toCE true e) m), P (.st (.Return (some e) p)) (fzAll l (.ret m))
  raise : ∀ {ve p₁ t k p₂ p₃ p} (hg : cs.glob ve = some (.ty "ValueError")), P (.st (.Raise (some (.Call (.Name ve p₁) [.Constant (.str t) k p₂] [] p₃)) none p)) .raise
  tryA : ∀ {y p6 f p7 e es p8 p9 ve p1 x p2 v kk p3 p4 p5 p i j fi fr m} (l : List Nat) (hg : cs.glob ve = some (.ty "ValueError")) (hx : cs.vm.lookup x = some j) (hy : cs.vm.lookup y = some i) (hf : cs.glob f = some (.fn fi fr)) (hs : Ai e = true) (h : Comp (.li cs.toCE (e :: es)) m), P (.st (.Try [.Assign [.Name y p6] (.Call (.Name f p7) (e :: es) [] p8) p9] [.ExceptHandler (some (.Name ve p1)) none [.Assign [.Name x p2] (.Constant (.bool v) kk p3) p4] p5] [] [] p)) (fzAll l (.tryA (some i) fi m j v))
  tryE : ∀ {f p7 e es p8 p9 ve p1 x p2 v kk p3 p4 p5 p j fi fr m} (l : List Nat) (hg : cs.glob ve = some (.ty "ValueError")) (hx : cs.vm.lookup x = some j) (hf : cs.glob f = some (.fn fi fr)) (hs : Ai e = true) (h : Comp (.li cs.toCE (e :: es)) m), P (.st (.Try [.Expr (.Call (.Name f p7) (e :: es) [] p8) p9] [.ExceptHandler (some (.Name ve p1)) none [.Assign [.Name x p2] (.Constant (.bool v) kk p3) p4] p5] [] [] p)) (fzAll l (.tryA none fi m j v))
  brk : ∀ {p}, P (.st (.Break p)) .brk
  cont : ∀ {p}, P (.st (.Continue p)) .cont
noncomputable def Dv (cs : CS) (j : JobS) (m : MS) : Prop := ∀ P : JobS → MS → Prop, RulesS cs P → P j m
theorem Dv.nil {cs : CS}  : Dv cs (.sts []) .skip := fun P R => R.nil 
theorem Dv.cons {cs : CS} {s r a b} (ha : Dv cs (.st s) a) (hb : Dv cs (.sts r) b) : Dv cs (.sts (s :: r)) (.seq a b) := fun P R => R.cons (ha P R) (hb P R)
theorem Dv.assign {cs : CS} {x p' e p i m} (l : List Nat) (hx : cs.vm.lookup x = some i) (hs : Iu e = true) (h : Comp (.ex cs.toCE true e) m) : Dv cs (.st (.Assign [.Name x p'] e p)) (fzAll l (.assign i m)) := fun P R => R.assign l hx hs h
theorem Dv.assignF {cs : CS} {x p' e p i m} (l : List Nat) (hx : cs.vm.lookup x = some i) (hap : cs.ap.contains i = false) (hs : Iu e = true) (hfr : Iz cs.fresh m = true) (h : Comp (.ex cs.toCE true e) m) : Dv cs (.st (.Assign [.Name x p'] e p)) (fzAll l (.assignF i m)) := fun P R => R.assignF l hx hap hs hfr h
theorem Dv.assignC {cs : CS} {x p' elt tgt it ifs scope pp p i xs me mi mt} (l : List Nat) (hx : cs.vm.lookup x = some i) (ht : Bf tgt = some xs) (hsc : Eg cs.scope scope xs = true) (hi : Comp (.it cs.toCE false it) mi) (he : Comp (.ex (Bc cs.toCE scope xs) true elt) me) (hT : Comp (.ts (Bc cs.toCE scope xs) ifs) mt) : Dv cs (.st (.Assign [.Name x p'] (.ListComp elt [⟨tgt, it, ifs, 0⟩] scope pp) p)) (fzAll l (.assign i (.comp me xs.length mi mt))) := fun P R => R.assignC l hx ht hsc hi he hT
theorem Dv.assignFC {cs : CS} {x p' elt tgt it ifs scope pp p i xs me mi mt} (l : List Nat) (hx : cs.vm.lookup x = some i) (hap : cs.ap.contains i = false) (ht : Bf tgt = some xs) (hsc : Eg cs.scope scope xs = true) (hi : Comp (.it cs.toCE false it) mi) (he : Comp (.ex (Bc cs.toCE scope xs) true elt) me) (hT : Comp (.ts (Bc cs.toCE scope xs) ifs) mt) : Dv cs (.st (.Assign [.Name x p'] (.ListComp elt [⟨tgt, it, ifs, 0⟩] scope pp) p)) (fzAll l (.assignF i (.comp me xs.length mi mt))) := fun P R => R.assignFC l hx hap ht hsc hi he hT
theorem Dv.assignL {cs : CS} {x p' es p'' p i m} (l : List Nat) (hx : cs.vm.lookup x = some i) (h : Comp (.li cs.toCE es) m) : Dv cs (.st (.Assign [.Name x p'] (.List es p'') p)) (fzAll l (.assignL i m)) := fun P R => R.assignL l hx h
theorem Dv.store {cs : CS} {x p₁ k p₂ v p i mk mv} (l : List Nat) (hap : cs.ap.contains i = false) (hd : (x == ("__debug__" : Str)) = false) (hx : cs.vm.lookup x = some i) (hk : Comp (.ex cs.toCE false k) mk) (hv : Comp (.ex cs.toCE true v) mv) : Dv cs (.st (.Assign [.Subscript (.Name x p₁) k p₂] v p)) (fzAll l (.store i mk mv)) := fun P R => R.store l hap hd hx hk hv
theorem Dv.append {cs : CS} {x p₁ meth apos a pos p i m} (l : List Nat) (hm : meth = ("append" : Str)) (hap : cs.ap.contains i = true) (hl : (apos.endLine == pos.line) = true) (hd : (x == ("__debug__" : Str)) = false) (hs : Ai a = true) (hx : cs.vm.lookup x = some i) (h : Comp (.ex cs.toCE true a) m) : Dv cs (.st (.Expr (.Call (.Attribute (.Name x p₁) meth apos) [a] [] pos) p)) (fzAll l (.append i m)) := fun P R => R.append l hm hap hl hd hs hx h
theorem Dv.ite {cs : CS} {t b o p m mb mo} (l : List Nat) (ht : Comp (.ex cs.toCE false t) m) (hb : Dv cs (.sts b) mb) (ho : Dv cs (.sts o) mo) : Dv cs (.st (.If t b o p)) (fzAll l (.ite m mb mo)) := fun P R => R.ite l ht (hb P R) (ho P R)
theorem Dv.«while» {cs : CS} {t b p m mb} (ht : Comp (.ex cs.toCE false t) m) (hb : Dv cs (.sts b) mb) : Dv cs (.st (.While t b [] p)) (.while m mb) := fun P R => R.«while» ht (hb P R)
theorem Dv.«for» {cs : CS} {tgt it b p xs is mi mb} (l : List Nat) (hx : Bf tgt = some xs) (his : mapO (fun x => cs.vm.lookup x) xs = some is) (hi : Comp (.it cs.toCE true it) mi) (hb : Dv cs (.sts b) mb) : Dv cs (.st (.For tgt it b [] p)) (fzAll l (.for is mi mb)) := fun P R => R.«for» l hx his hi (hb P R)
theorem Dv.ret {cs : CS} {e p m} (l : List Nat) (h : Comp (.ex cs.toCE true e) m) : Dv cs (.st (.Return (some e) p)) (fzAll l (.ret m)) := fun P R => R.ret l h
theorem Dv.raise {cs : CS} {ve p₁ t k p₂ p₃ p} (hg : cs.glob ve = some (.ty "ValueError")) : Dv cs (.st (.Raise (some (.Call (.Name ve p₁) [.Constant (.str t) k p₂] [] p₃)) none p)) .raise := fun P R => R.raise hg
theorem Dv.tryA {cs : CS} {y p6 f p7 e es p8 p9 ve p1 x p2 v kk p3 p4 p5 p i j fi fr m} (l : List Nat) (hg : cs.glob ve = some (.ty "ValueError")) (hx : cs.vm.lookup x = some j) (hy : cs.vm.lookup y = some i) (hf : cs.glob f = some (.fn fi fr)) (hs : Ai e = true) (h : Comp (.li cs.toCE (e :: es)) m) : Dv cs (.st (.Try [.Assign [.Name y p6] (.Call (.Name f p7) (e :: es) [] p8) p9] [.ExceptHandler (some (.Name ve p1)) none [.Assign [.Name x p2] (.Constant (.bool v) kk p3) p4] p5] [] [] p)) (fzAll l (.tryA (some i) fi m j v)) := fun P R => R.tryA l hg hx hy hf hs h
theorem Dv.tryE {cs : CS} {f p7 e es p8 p9 ve p1 x p2 v kk p3 p4 p5 p j fi fr m} (l : List Nat) (hg : cs.glob ve = some (.ty "ValueError")) (hx : cs.vm.lookup x = some j) (hf : cs.glob f = some (.fn fi fr)) (hs : Ai e = true) (h : Comp (.li cs.toCE (e :: es)) m) : Dv cs (.st (.Try [.Expr (.Call (.Name f p7) (e :: es) [] p8) p9] [.ExceptHandler (some (.Name ve p1)) none [.Assign [.Name x p2] (.Constant (.bool v) kk p3) p4] p5] [] [] p)) (fzAll l (.tryA none fi m j v)) := fun P R => R.tryE l hg hx hf hs h
theorem Dv.brk {cs : CS} {p} : Dv cs (.st (.Break p)) .brk := fun P R => R.brk 
theorem Dv.cont {cs : CS} {p} : Dv cs (.st (.Continue p)) .cont := fun P R => R.cont 
noncomputable def runS : JobS → Env → Sem Flow
  | .st s, env => exec s env
  | .sts l, env => execs l env
theorem soundS (ok : c.Ok) (hF : ∀ f args r, c.F f args = some r → FnOk c d f args r) {cs : CS} (hfr : cs.fresh = c.fresh) {j : JobS} {m : MS} (h : Dv cs j m) : SS c d cs.toCE fq (runS j) m := by
  have g : ∀ {j : Job} {m : ME}, Comp j m → Means c d j m := soundE ok hF
  exact h (fun j m => SS c d cs.toCE fq (runS j) m) {
    nil := SS.nil
    cons := fun ia ib => SS.cons ia ib
    assign := fun l hx hs h => SS.fzAll _ (SS.assign1 hx (g h).1 (swPlain_is hs _ _ _))
    assignF := fun l hx hap hs hf h => SS.fzAll _ (SS.assignF1 hx hap (g h).1 (by rw [← hfr]; exact hf) (swPlain_is hs _ _ _))
    assignC := fun l hx ht hsc hi he hT => SS.fzAll _ (SS.assignC ok hx ht (ScOk.of hsc) (g hi).2 (g hi).1 (g he).1 (g hT))
    assignFC := fun l hx hap ht hsc hi he hT => SS.fzAll _ (SS.assignFC ok hx hap ht (ScOk.of hsc) (g hi).2 (g hi).1 (g he).1 (g hT))
    assignL := fun l hx h => SS.fzAll _ (SS.assignL hx (g h))
    store := fun l hap hd hx hk hv => SS.fzAll _ (SS.store hap hd hx (g hk).1 (g hv).1)
    append := fun l hm hap hl hd hs hx h => by subst hm; exact SS.fzAll _ (SS.append hap hl hd hs hx (g h).1)
    ite := fun l ht ib io => SS.fzAll _ (SS.ite ((g ht).2 rfl) ib io)
    «while» := fun ht ib => SS.while ((g ht).2 rfl) ib
    «for» := fun l hx his hi ib => SS.fzAll _ (SS.for hx his (g hi).1 (g hi).2 ib)
    ret := fun l h => SS.fzAll _ (SS.ret (g h).1)
    raise := fun hg => SS.raise ok hg
    tryA := fun l hg hx hy hf hs h => SS.fzAll _ (SS.tryA ok hF hg hx hy hf hs (g h))
    tryE := fun l hg hx hf hs h => SS.fzAll _ (SS.tryE ok hF hg hx hf hs (g h))
    brk := SS.brk
    cont := SS.cont }
end
abbrev RS (cs : CS) (j : JobS) : Type := Option { m : MS // Dv cs j m }
noncomputable def fzL (c : CS) (m : List ME) : List Nat := ((m.flatMap caps).filter (c.mu.contains ·)).eraseDups
noncomputable def fuel : Nat := 64
noncomputable def sList {cs : CS} (f : (s : Stmt) → RS cs (.st s)) : (l : List Stmt) → RS cs (.sts l)
  | [] => some ⟨.skip, .nil⟩
  | s :: r => (f s).bind fun a => (sList f r).map fun b => ⟨.seq a.1 b.1, .cons a.2 b.2⟩
noncomputable def sAssign (cs : CS) (x : Str) (p' : Pos) (e : Expr) (p : Pos) : RS cs (.st (.Assign [.Name x p'] e p)) :=
  match hx : cs.vm.lookup x with
  | none => none
  | some i => match hap : cs.ap.contains i with
    | true => (match e with
      | .List es p'' => (cLi (Ew fuel) cs.toCE es).map fun m => ⟨_, .assignL (fzL cs [m.1]) hx m.2⟩
      | .ListComp elt [⟨tgt, it, ifs, 0⟩] scope pp => none
      | e => if hs : Iu e = true then (Ew fuel cs.toCE true e).map fun m => ⟨_, .assign (fzL cs [m.1]) hx hs m.2⟩ else none)
    | false => (match e with
      | .ListComp elt [⟨tgt, it, ifs, 0⟩] scope pp => (match ht : Bf tgt with
        | some xs => if hsc : Eg cs.scope scope xs = true then (cIt (Ew (fuel - 1)) cs.toCE false it).bind fun mi => (Ew (fuel - 1) (Bc cs.toCE scope xs) true elt).bind fun me => (cTs (Ew (fuel - 1)) (Bc cs.toCE scope xs) ifs).map fun mt =>
            if cs.mu.contains i then ⟨_, .assignFC (fzL cs [.comp me.1 xs.length mi.1 mt.1]) hx hap ht hsc mi.2 me.2 mt.2⟩ else ⟨_, .assignC (fzL cs [.comp me.1 xs.length mi.1 mt.1]) hx ht hsc mi.2 me.2 mt.2⟩ else none
        | none => none)
      | e => if hs : Iu e = true then (Ew fuel cs.toCE true e).map fun m => if hf : Iz cs.fresh m.1 = true then (if cs.mu.contains i then ⟨_, .assignF (fzL cs [m.1]) hx hap hs hf m.2⟩ else ⟨_, .assign (fzL cs [m.1]) hx hs m.2⟩) else ⟨_, .assign (fzL cs [m.1]) hx hs m.2⟩ else none)
noncomputable def sStore (cs : CS) (x : Str) (p₁ : Pos) (k : Expr) (p₂ : Pos) (v : Expr) (p : Pos) : RS cs (.st (.Assign [.Subscript (.Name x p₁) k p₂] v p)) :=
  match hx : cs.vm.lookup x with
  | none => none
  | some i => if hap : cs.ap.contains i = false then if hd : (x == ("__debug__" : Str)) = false then (Ew fuel cs.toCE false k).bind fun mk => (Ew fuel cs.toCE true v).map fun mv => ⟨_, .store (fzL cs [mv.1]) hap hd hx mk.2 mv.2⟩ else none else none
noncomputable def sAppend (cs : CS) (x : Str) (p₁ : Pos) (meth : Str) (apos : Pos) (a : Expr) (pos p : Pos) : RS cs (.st (.Expr (.Call (.Attribute (.Name x p₁) meth apos) [a] [] pos) p)) :=
  match hx : cs.vm.lookup x with
  | none => none
  | some i => if hm : meth = ("append" : Str) then if hap : cs.ap.contains i = true then if hl : (apos.endLine == pos.line) = true then if hd : (x == ("__debug__" : Str)) = false then if hs : Ai a = true then (Ew fuel cs.toCE true a).map fun m => ⟨_, .append (fzL cs [m.1]) hm hap hl hd hs hx m.2⟩ else none else none else none else none else none
noncomputable def sTry (cs : CS) (b : Stmt) (ve : Str) (p1 : Pos) (x : Str) (p2 : Pos) (v : Bool) (kk : Nat) (p3 p4 p5 p : Pos) : RS cs (.st (.Try [b] [.ExceptHandler (some (.Name ve p1)) none [.Assign [.Name x p2] (.Constant (.bool v) kk p3) p4] p5] [] [] p)) :=
  match hg : cs.glob ve with
  | some (.ty "ValueError") => (match hx : cs.vm.lookup x with
    | none => none
    | some j => (match b with
      | .Assign [.Name y p6] (.Call (.Name f p7) (e :: es) [] p8) p9 => (match hy : cs.vm.lookup y with
        | none => none
        | some i => (match hf : cs.glob f with
          | some (.fn fi fr) => if hs : Ai e = true then (cLi (Ew (fuel - 1)) cs.toCE (e :: es)).map fun m => ⟨_, .tryA (fzL cs [m.1]) hg hx hy hf hs m.2⟩ else none
          | _ => none))
      | .Expr (.Call (.Name f p7) (e :: es) [] p8) p9 => (match hf : cs.glob f with
          | some (.fn fi fr) => if hs : Ai e = true then (cLi (Ew (fuel - 1)) cs.toCE (e :: es)).map fun m => ⟨_, .tryE (fzL cs [m.1]) hg hx hf hs m.2⟩ else none
          | _ => none)
      | _ => none))
  | _ => none
noncomputable def compS (cs : CS) : (n : Nat) → (s : Stmt) → RS cs (.st s)
  | 0, _ => none
  | n + 1, s => match s with
    | .Assign [.Name x p'] e p => sAssign cs x p' e p
    | .Assign [.Subscript (.Name x p₁) k p₂] v p => sStore cs x p₁ k p₂ v p
    | .Expr (.Call (.Attribute (.Name x p₁) meth apos) [a] [] pos) p => sAppend cs x p₁ meth apos a pos p
    | .If t b o p => (Ew fuel cs.toCE false t).bind fun m => (sList (compS cs n) b).bind fun mb => (sList (compS cs n) o).map fun mo => ⟨_, .ite (fzL cs [m.1]) m.2 mb.2 mo.2⟩
    | .While t b [] p => (Ew fuel cs.toCE false t).bind fun m => (sList (compS cs n) b).map fun mb => ⟨_, .while m.2 mb.2⟩
    | .For tgt it b [] p => (match hx : Bf tgt with
      | none => none
      | some xs => (match his : mapO (fun x => cs.vm.lookup x) xs with
        | none => none
        | some is => (cIt (Ew fuel) cs.toCE true it).bind fun mi => (sList (compS cs n) b).map fun mb => ⟨_, .for (fzL cs [mi.1]) hx his mi.2 mb.2⟩))
    | .Return (some e) p => (Ew fuel cs.toCE true e).map fun m => ⟨_, .ret (fzL cs [m.1]) m.2⟩
    | .Raise (some (.Call (.Name ve p₁) [.Constant (.str t) k p₂] [] p₃)) none p => (match hg : cs.glob ve with
      | some (.ty "ValueError") => some ⟨_, .raise hg⟩
      | _ => none)
    | .Try [b] [.ExceptHandler (some (.Name ve p1)) none [.Assign [.Name x p2] (.Constant (.bool v) kk p3) p4] p5] [] [] p => sTry cs b ve p1 x p2 v kk p3 p4 p5 p
    | .Break p => some ⟨_, .brk⟩
    | .Continue p => some ⟨_, .cont⟩
    | _ => none
noncomputable def csOf (gt : List (Str × GK)) (fresh : Nat → Bool) (mu ap : List Str) (sc : Scope) : CS :=
  { scope := sc, vm := (Eh sc).zipIdx, n := (Eh sc).length, gt := gt, mu := mu.filterMap (fun x => (Eh sc).zipIdx.lookup x), ap := ap.filterMap (fun x => (Eh sc).zipIdx.lookup x), fresh := fresh }
noncomputable def compF (gt : List (Str × GK)) (fresh : Nat → Bool) (mu ap : List Str) (args : Arguments) (body : List Stmt) (sc : Scope) : Option MF :=
  if (args.args.map (·.arg)).length ≤ (Eh sc).length && (Eh sc).take (args.args.map (·.arg)).length == args.args.map (·.arg) && sc.kind == .function && sc.names.all (fun p => sc.names.lookup p.1 == some p.2) then
    (sList (compS (csOf gt fresh mu ap sc) 16) body).map fun ms => ⟨(args.args.map (·.arg)).length, (Eh sc).length, ms.1⟩
  else none
end Mine
end
section
open PySem PyProof.Rows PySem.SeqAt
namespace Mine
set_option tactic.hygienic false
set_option autoImplicit false
theorem bindL_get {kindOf : Str → Option NameKind} : ∀ {ps : List Str} {vs : List Value} {m : Str → Option Value} {i : Nat} {x : Str} {v : Value}, ps.Nodup → kindOf x = some .local → ps[i]? = some x → vs[i]? = some v → bindL kindOf (ps.zip vs) m x = some v
  | [], vs, m, i, x, v, _, _, h, _ => by simp at h
  | p :: ps, [], m, i, x, v, _, _, _, h => by simp at h
  | p :: ps, w :: vs, m, i, x, v, hn, hk, h1, h2 => by
    simp only [List.zip_cons_cons, bindL]
    have other : ∀ {ps : List Str} {vs : List Value} {m : Str → Option Value}, x ∉ ps → bindL kindOf (ps.zip vs) m x = m x := by
      intro ps
      induction ps with
      | nil => intro vs m _; simp [bindL]
      | cons q r ih =>
        intro vs m hx
        cases vs with
        | nil => simp [bindL]
        | cons u us =>
          simp only [List.zip_cons_cons, bindL]
          rw [ih (fun z => hx (List.mem_cons_of_mem _ z))]
          split
          · exact if_neg (fun z => hx (by rw [z]; exact List.mem_cons_self))
          · rfl
    cases i with
    | zero =>
      simp at h1 h2; subst h1 h2
      rw [other (List.nodup_cons.mp hn).1, if_pos hk]; simp
    | succ i =>
      simp at h1 h2
      exact bindL_get (List.nodup_cons.mp hn).2 hk h1 h2
theorem bindC_get {kindOf : Str → Option NameKind} : ∀ {ps : List Str} {vs : List Value} {m : Str → Option Value} {i : Nat} {x : Str} {v : Value}, ps.Nodup → kindOf x = some .cell → ps[i]? = some x → vs[i]? = some v → bindC kindOf (ps.zip vs) m x = some v
  | [], vs, m, i, x, v, _, _, h, _ => by simp at h
  | p :: ps, [], m, i, x, v, _, _, _, h => by simp at h
  | p :: ps, w :: vs, m, i, x, v, hn, hk, h1, h2 => by
    simp only [List.zip_cons_cons, bindC]
    have other : ∀ {ps : List Str} {vs : List Value} {m : Str → Option Value}, x ∉ ps → bindC kindOf (ps.zip vs) m x = m x := by
      intro ps
      induction ps with
      | nil => intro vs m _; simp [bindC]
      | cons q r ih =>
        intro vs m hx
        cases vs with
        | nil => simp [bindC]
        | cons u us =>
          simp only [List.zip_cons_cons, bindC]
          rw [ih (fun z => hx (List.mem_cons_of_mem _ z))]
          split
          · rfl
          · exact if_neg (fun z => hx (by rw [z]; exact List.mem_cons_self))
    cases i with
    | zero =>
      simp at h1 h2; subst h1 h2
      rw [other (List.nodup_cons.mp hn).1, if_neg (by rw [hk]; decide)]; simp
    | succ i =>
      simp at h1 h2
      exact bindC_get (List.nodup_cons.mp hn).2 hk h1 h2
set_option tactic.hygienic true in
theorem Ij : ∀ (names : List (Str × NameKind)) (n : Nat) (acc : List (Str × Addr)), (∀ q ∈ acc, q ∈ cellsFrom n names acc) ∧ ∀ x, (x, NameKind.cell) ∈ names → ∃ a, (x, a) ∈ cellsFrom n names acc
  | [], n, acc => ⟨fun _ h => h, fun _ h => by cases h⟩
  | (y, k) :: r, n, acc => by
    unfold cellsFrom
    split
    · have ih := Ij r (n + 1) ((y, n) :: acc)
      refine ⟨fun q hq => ih.1 q (List.mem_cons_of_mem _ hq), fun x hx => ?_⟩
      rcases List.mem_cons.mp hx with e | hx
      · cases e; exact ⟨n, ih.1 _ List.mem_cons_self⟩
      · exact ih.2 x hx
    · rename_i hk
      have ih := Ij r n acc
      refine ⟨ih.1, fun x hx => ?_⟩
      rcases List.mem_cons.mp hx with e | hx
      · cases e; simp at hk
      · exact ih.2 x hx
inductive FnV (c : Cx) (f : Nat) (ps : List Str) (body : List Stmt) (sc : Scope) : Prop where
  | mk (o : Obj) (fd : FuncData) (ho : c.hG.get? (c.fa f) = some o) (hd : o.data = .func fd) (hb : fd.body = .stmts body) (hs : fd.scope = sc) (hg : fd.globals = mainGlobals) (hbl : fd.builtins = builtinsNs) (hc : fd.closure = []) (hr : c.hG.CodeRec fd.code fd.qualname) (hbi : ∀ vs : List Value, vs.length = ps.length → bindArgs fd ⟨vs, []⟩ = pure (ps.zip vs))
structure FnIs (c : Cx) (f : Nat) (ps : List Str) (body : List Stmt) (sc : Scope) : Prop where
  is : FnV c f ps body sc
  gen : sc.isGenerator = false
  cor : sc.isCoroutine = false
noncomputable def initS (mf : MF) (args : List AV) : St := args.map (fun v => some (false, v)) ++ List.replicate (mf.nslots - args.length) none
noncomputable def Jd : Out → Option Res
  | .ret v => some (.val v)
  | .exc => some .exc
  | _ => none
theorem framesOf_deeper {A : Around} {env : Env} {l : List Env} {L : Addr} (h : A.frames = some l) (hf : env.frame = some L) : Ac (A.deeper env) = L :: Ac A := by
  unfold Ac Around.deeper
  simp [h, hf]
structure RoomW (A : Around) (d : Nat) : Prop where
  handled : A.handled = none
  depth : A.depth + d + 110 < recursionLimit
  units : A.units + 4 * d + 100 < cLine
  frames : ∃ l, A.frames = some l
noncomputable def FnOkW (c : Cx) (d : Nat) (f : Nat) (args : List AV) (r : Res) : Prop :=
  ∀ (A : Around) (s : Shared) (vs : List Value) (bad : Addr → Prop), RoomW A d → FrOk A s.heap → (∀ b o, c.hG.get? b = some o → s.heap.get? b = some o) → (∀ b, bad b → c.hG.get? b = none) → (∀ b, bad b → s.heap.get? b ≠ none) →
    (∀ b ∈ Ac A, bad b) → DenL c s.heap bad args vs →
    wpAny (model c.prog c.w) A (call (.ref (c.fa f)) vs) (ResPost c A bad (c.fresh f) s r) (ResExc c A s r) s
set_option tactic.hygienic true in
theorem fn_runW {c : Cx} {d f : Nat} {ps : List Str} {args : Arguments} {body : List Stmt} {sc : Scope} {mf : MF} {fresh : Nat → Bool} {mu ap : List Str} (ok : c.Ok) (hF : ∀ f args r, c.F f args = some r → FnOk c d f args r) (fi : FnIs c f ps body sc) (hps : args.args.map (·.arg) = ps) (hnd : ps.Nodup) (hfr : fresh = c.fresh)
    (hc : compF c.gt fresh mu ap args body sc = some mf) (hrf : c.fresh f = true → As c.fresh mf.body = true) {avs : List AV} {N : Nat} {o : Out} {σ' : St} {r : Res} (hlen : avs.length = mf.nargs) (hrun : Ah c.G c.F N mf.body (initS mf avs) = some (o, σ')) (hres : Jd o = some r) : FnOkW c (d + 1) f avs r := by
  unfold compF at hc
  split at hc
  · rename_i hchk
    rw [Option.map_eq_some_iff] at hc
    obtain ⟨⟨ms, hms⟩, _, rfl⟩ := hc
    simp only [Bool.and_eq_true, decide_eq_true_eq, beq_iff_eq, List.all_eq_true] at hchk
    obtain ⟨⟨⟨hle, htake⟩, hkind⟩, huniq⟩ := hchk
    rw [hps] at hle htake hlen
    have hlen : avs.length = ps.length := by simpa using hlen
    have hS : SS c d (csOf c.gt fresh mu ap sc).toCE (c.fresh f) (fun env => execs body env) ms := soundS ok hF (cs := csOf c.gt fresh mu ap sc) hfr hms
    generalize hcs : csOf c.gt fresh mu ap sc = cs at hS
    intro A s vs bad rm fr ground badG badD fsb den
    obtain ⟨⟨ob, fd, ho, hdata, hbody, hscope, hglob, hblt, hclos, hcode, hbind⟩, hgen, hcor⟩ := fi
    have hvl : vs.length = ps.length := by rw [den.length, hlen]
    obtain ⟨l, hA⟩ := rm.frames
    have kindOf_of : ∀ x, x ∈ Eh sc → sc.names.lookup x = some .local ∨ sc.names.lookup x = some .cell := fun x hx => by
      unfold Eh at hx
      obtain ⟨p, hp, rfl⟩ := List.mem_map.mp hx
      obtain ⟨hp1, hp2⟩ := List.mem_filter.mp hp
      have := huniq p hp1
      simp only [Bool.or_eq_true, beq_iff_eq] at hp2
      rcases hp2 with e | e
      · left; rw [this, e]
      · right; rw [this, e]
    have psIn : ∀ (i : Nat) (x : Str), ps[i]? = some x → (Eh sc)[i]? = some x := fun i x h => by
      have h' : ((Eh sc).take ps.length)[i]? = some x := by rw [htake]; exact h
      have hi := (List.getElem?_eq_some_iff.mp h).1
      rwa [List.getElem?_take_of_lt hi] at h'
    refine wpAny_call (codeAny_call_function (by have := rm.depth; lia) (ground _ _ ho) hdata (by rw [hscope]; exact hcor) (by rw [hscope]; exact hgen) hbody (hcode.keeps ground) ?_)
    rw [hbind vs hvl]
    refine wpAny_pure ?_
    rw [hscope, hglob, hblt, hclos]
    have cellIn : ∀ n x, sc.names.lookup x = some .cell → ∃ a, (cellsFrom n sc.names []).lookup x = some a := fun n x h => by
      obtain ⟨a, ha⟩ := (Ij sc.names n []).2 x (Bk h)
      exact Ih ha
    refine wpAny_newFunctionEnv_cells hkind (fun x hx => ?_) fun env henv s₂ inc => ?_
    · have : x.1 ∈ ps := (List.of_mem_zip hx).1
      obtain ⟨i, hi⟩ := List.getElem?_of_mem this
      rcases kindOf_of x.1 (List.mem_of_getElem? (psIn i _ hi)) with h | h
      · exact .inl h
      · obtain ⟨a, ha⟩ := cellIn (s.heap.objs.size + 1) x.1 h
        exact .inr ⟨h, by rw [ha]; rfl⟩
    have hes : env.scope = sc := by rw [henv]; rfl
    have heg : env.globals = mainGlobals := by rw [henv]; rfl
    have heb : env.builtins = builtinsNs := by rw [henv]; rfl
    have hel : env.locals = s.heap.objs.size := by rw [henv]; rfl
    have hef : env.frame = some env.locals := by rw [henv]; rfl
    have hec : env.cells = cellsFrom (s.heap.objs.size + 1) sc.names [] := by rw [henv]; rfl
    have hkk : ∀ x, env.kindOf x = sc.names.lookup x := fun x => by unfold Env.kindOf; rw [hes]
    obtain ⟨⟨⟨h₂, tk₂, rfl⟩, hns, hkeep, _⟩, hcell, hapart, habove⟩ := inc
    dsimp only at hns hkeep hcell
    have hLnone : s.heap.get? env.locals = none := by rw [hel]; exact Az _
    have hcnone : ∀ x a, env.cells.lookup x = some a → s.heap.get? a = none := fun x a e => by
      have := habove x a (Bk e)
      exact Heap.get?_none_of_le (by rw [hel] at this; exact Nat.le_of_lt this)
    have hfs : Ac (A.deeper env) = env.locals :: Ac A := framesOf_deeper hA hef
    have room' : Room (A.deeper env) d := {
      handled := rm.handled
      depth := by have := rm.depth; show A.depth + 1 + d + 110 < recursionLimit; lia
      units := by have := rm.units; show A.units + 3 + 4 * d + 100 < cLine; lia
      frames := ⟨env, l, by unfold Around.deeper; simp [hA], by rw [hes]; exact hgen, by rw [hes]; exact hcor, heb, heg⟩ }
    have mfresh : ∀ b, mine env (fun _ => none) b → s.heap.get? b = none := fun b q => by
      rcases q with q | ⟨x, q⟩ | ⟨i, q⟩
      · rw [q]; exact hLnone
      · exact hcnone x b q
      · cases q
    have mthere : ∀ b, mine env (fun _ => none) b → h₂.get? b ≠ none := fun b q => by
      rcases q with q | ⟨x, q⟩ | ⟨i, q⟩
      · obtain ⟨o, _, _, e, _⟩ := hns; rw [q, e]; simp
      · obtain ⟨o, e, _⟩ := hcell x b q; rw [e]; simp
      · cases q
    have vmeq : cs.toCE.vm = (Eh sc).zipIdx := by rw [← hcs]; rfl
    have act : Act c (A.deeper env) cs.toCE env bad (initS ⟨ps.length, (Eh sc).length, ms⟩ avs) (fun _ => none) h₂ := {
      ev := {
        kind := by rw [hes]; exact hkind
        globs := heg
        blts := heb
        gk := fun x h => by rw [← hcs] at h; rw [hkk]; exact h
        ck := fun x h => by
          rw [← hcs] at h
          obtain ⟨a, ha⟩ := cellIn (s.heap.objs.size + 1) x h
          exact ⟨by rw [hkk]; exact h, a, by rw [hec]; exact ha⟩
        ground := fun b o e => hkeep b o (ground b o e)
        badG := fun b q => q.elim (badG b) fun q => by
          cases e : c.hG.get? b with
          | none => rfl
          | some o => have := mfresh b q; rw [ground b o e] at this; cases this
        badD := fun b q => q.elim (fun q => by
          have := badD b q
          cases e : s.heap.get? b with
          | none => exact absurd e this
          | some o => rw [hkeep b o e]; simp) (mthere b)
        fsb := fun b q => by
          rw [hfs] at q
          rcases List.mem_cons.mp q with q | q
          · exact .inr (.inl q)
          · exact .inl (fsb b q)
        fr := fun l' hl' e he => by
          have : l' = env :: l := by
            have h1 : (A.deeper env).frames = some (env :: l) := by unfold Around.deeper; simp [hA]
            rw [h1] at hl'; exact (Option.some.inj hl').symm
          subst this
          rcases List.mem_cons.mp he with rfl | he
          · obtain ⟨o, es, ep, e1, e2, _⟩ := hns
            exact ⟨by rw [hes, hkind]; decide, _, o, hef, e1, fun vs q => by first | exact (nN (e2) q).elim | (rw [e2] at q; cases q)⟩
          · obtain ⟨g1, L, o, g2, g3, g4⟩ := fr l hA e he
            exact ⟨g1, L, o, g2, hkeep L o g3, g4⟩
        n := by rw [← hcs]; simp only [csOf]; simp only [initS, List.length_append, List.length_map, List.length_replicate, hlen]; lia
        gt := by rw [← hcs]; rfl
        vb := fun x i h => by
          rw [vmeq] at h
          rw [← hcs]; simp only [csOf]
          have := (Bl h).2
          exact (List.getElem?_eq_some_iff.mp this).1
        var := fun x i own av h1 h2 => by
          rw [vmeq] at h1
          have hx := (Bl h1).2
          simp only [Nat.sub_zero] at hx
          unfold initS at h2
          by_cases hi : i < avs.length
          · rw [List.getElem?_append_left (by simpa using hi), List.getElem?_map] at h2
            cases q : avs[i]? with
            | none => rw [q] at h2; cases h2
            | some z =>
              rw [q] at h2; cases h2
              obtain ⟨v, hv, dv⟩ := den.get q
              have hpx : ps[i]? = some x := by
                have : i < ps.length := by lia
                have h3 := psIn i _ (List.getElem?_eq_getElem this)
                rw [hx] at h3; rw [List.getElem?_eq_getElem this]; exact h3.symm
              have hk := kindOf_of x (List.mem_of_getElem? hx)
              have dv' : Den c h₂ (Ar env bad fun _ => none) av v := dv.carry ⟨fun b o _ e => hkeep b o e, fun b hb e q => q.elim hb fun q => e (mfresh b q)⟩
              refine ⟨v, ?_, dv'.r fun b q => ?_, fun _ => dv'.2⟩
              · rcases hk with hk | hk
                · exact .inl ⟨by rw [hkk]; exact hk, _, hns, bindL_get hnd (by rw [hkk]; exact hk) hpx hv⟩
                · obtain ⟨a, ha⟩ := cellIn (s.heap.objs.size + 1) x hk
                  have ha' : env.cells.lookup x = some a := by rw [hec]; exact ha
                  have := hcell x a ha'
                  rw [bindC_get hnd (by rw [hkk]; exact hk) hpx hv] at this
                  exact .inr ⟨by rw [hkk]; exact hk, a, ha', this⟩
              · rw [hfs] at q
                rcases List.mem_cons.mp q with q | q
                · exact .inr (.inl q)
                · exact .inl (fsb b q)
          · rw [List.getElem?_append_right (by simpa using hi)] at h2
            rw [List.getElem?_replicate] at h2
            split at h2 <;> cases h2 }
      ns := ⟨_, hns⟩
      kinds := fun x i h => by
        rw [vmeq] at h
        have hx := (Bl h).2
        simp only [Nat.sub_zero] at hx
        rcases kindOf_of x (List.mem_of_getElem? hx) with hk | hk
        · exact .inl (by rw [hkk]; exact hk)
        · obtain ⟨a, ha⟩ := cellIn (s.heap.objs.size + 1) x hk
          have ha' : env.cells.lookup x = some a := by rw [hec]; exact ha
          exact .inr ⟨by rw [hkk]; exact hk, a, _, ha', hcell x a ha'⟩
      inj := fun x y i h1 h2 => by
        rw [vmeq] at h1 h2
        have e1 := (Bl h1).2
        have e2 := (Bl h2).2
        rw [e1] at e2; exact Option.some.inj e2
      cells := fun x y a h1 h2 => name_of_addr hapart (Bk h1) (Bk h2)
      cellL := fun x a h e => by
        have := habove x a (Bk h)
        rw [e] at this; exact Nat.lt_irrefl _ this
      own := fun i av h => by
        unfold initS at h
        by_cases hi : i < avs.length
        · rw [List.getElem?_append_left (by simpa using hi), List.getElem?_map] at h
          cases q : avs[i]? with
          | none => rw [q] at h; cases h
          | some z => rw [q] at h; cases h
        · rw [List.getElem?_append_right (by simpa using hi), List.getElem?_replicate] at h
          split at h <;> cases h
      ow1 := fun i a h => by cases h
      ow2 := fun i j a h => by cases h
      fsIn := fun b q => by
        rw [hfs] at q
        rcases List.mem_cons.mp q with q | q
        · exact .inr q
        · exact .inl (fsb b q)
      obN := fun b q q' => badD b q' (mfresh b (q.elim .inl fun q => .inr (.inl q)))
      top := ⟨⟨l, by unfold Around.deeper; simp [hA]⟩, hef⟩ }
    -- what the callee kept, seen from the caller
    have back : ∀ {ow' : Nat → Option Addr} {h' : Heap}, Rel (Ac (A.deeper env)) (mine env fun _ => none) (mine env ow') h₂ h' → Kp (Ac A) s.heap h' := fun {ow' h'} r b o e => by
      have hb : ¬ mine env (fun _ => none) b := fun q => by first | exact (nN (mfresh b q) e).elim | (rw [mfresh b q] at e; cases e)
      obtain ⟨k1, sl, k2⟩ := r.keep b o hb (hkeep b o e)
      refine ⟨fun q => k1 (by rw [hfs]; intro z; rcases List.mem_cons.mp z with z | z; exact hb (.inl z); exact q z), sl, k2⟩
    refine ⟨ok.nolimit.keeps fun b o e => hkeep b o (ground b o e), codeAny_func ?_⟩
    refine wpAny_mono (hS N (A.deeper env) env bad _ (fun _ => none) _ o σ' _ room' act hrun hrf PassesOwn.leaving ?_) (fun fl s' x => ?_) fun _ _ q => q
    · -- it raises
      intro hexc s₁ h' ea cargs ow' a₁ r₁ made
      subst hexc
      simp only [Jd] at hres; cases hres
      have kp₁ := back r₁.heap
      have hfrs : (A.deeper env).frames = some (env :: l) := by unfold Around.deeper; simp [hA]
      have stay : (Go s.heap (Ac A)).StaysIn s₁.heap := fun b o e => by
        have hb : b ∉ Ac A := fun q => by first | exact (nN (Id _ q) e).elim | (rw [Id _ q] at e; cases e)
        exact (kp₁ b o (Jy _ e)).1 hb
      have funf : ∀ (ls : List Env), (∀ e ∈ ls, e ∈ env :: l) → s₁.heap.FunFrames (Go s.heap (Ac A)) ls := by
        intro ls
        induction ls with
        | nil => intro _; trivial
        | cons e r ih =>
          intro hin
          obtain ⟨g1, L, o, g2, g3, g4⟩ := a₁.ev.fr _ hfrs e (hin e List.mem_cons_self)
          refine ⟨g1, ⟨L, o, g2, ?_, g3, g4⟩, ih fun e' he' => hin e' (List.mem_cons_of_mem _ he')⟩
          rcases List.mem_cons.mp (hin e List.mem_cons_self) with q | q
          · subst q
            rw [hef] at g2; cases g2
            cases z : (Go s.heap (Ac A)).get? e.locals with
            | none => rfl
            | some o' => have := Jy _ z; rw [hLnone] at this; cases this
          · refine Id _ ?_
            unfold Ac; rw [hA]; exact List.mem_filterMap.mpr ⟨e, q, g2⟩
      obtain ⟨h₁, tk₁, rfl, rr⟩ := r₁
      refine wpAny_leaves_madeW (base := Go s.heap (Ac A)) hfrs hef stay (funf _ fun _ h => h) made fun h'' t fly tup hnone up => ?_
      refine ⟨rfl, ea, _, l, h'', _, rfl, hA, rfl, ?_, fly⟩
      intro b o e
      by_cases hb : b ∈ Ac A
      · refine ⟨fun q => absurd hb q, ?_⟩
        obtain ⟨_, sl, e'⟩ := kp₁ b o e
        have e'' := made.keeps b _ e'
        unfold Ac at hb; rw [hA] at hb
        obtain ⟨en, hen, hfe⟩ := List.mem_filterMap.mp hb
        obtain ⟨_, L, o', g2, g3, g4⟩ := fr l hA en hen
        rw [g2] at hfe; cases hfe
        rw [e] at g3; cases g3
        obtain ⟨sl', q⟩ := up b _ e'' g4
        exact ⟨sl', q⟩
      · have := fly.1 b o (Ko _ e hb)
        exact ⟨fun _ => this, o.slots, this⟩
    · -- it returns
      cases o with
      | ret av =>
        simp only [Jd] at hres; cases hres
        obtain ⟨v, ow', rfl, r₁, dv, nb, frs⟩ := x
        have kp₁ := back r₁.heap
        obtain ⟨h₁, tk₁, rfl, rr⟩ := r₁
        refine ⟨av, rfl, ⟨h₁, tk₁, rfl, kp₁⟩, ⟨dv, fun b e q => (nb b e).2 (by rw [hfs]; exact List.mem_cons_of_mem _ q)⟩, fun _ b e => (nb b e).1, fun q b e => ?_⟩
        have := frs q b e
        cases z : s.heap.get? b with
        | none => rfl
        | some o => rw [hkeep b o z] at this; cases this
      | exc => exact x.elim
      | next => simp [Jd] at hres
      | brk => simp [Jd] at hres
      | cont => simp [Jd] at hres
  · cases hc
theorem FnOkW.strong {c : Cx} {d f : Nat} {args : List AV} {r : Res} (h : FnOkW c d f args r) : FnOk c d f args r := fun A s vs bad rm =>
  h A s vs bad ⟨rm.handled, rm.depth, rm.units, let ⟨e, l, h, _⟩ := rm.frames; ⟨e :: l, h⟩⟩
theorem fn_run {c : Cx} {d f : Nat} {ps : List Str} {args : Arguments} {body : List Stmt} {sc : Scope} {mf : MF} {fresh : Nat → Bool} {mu ap : List Str} (ok : c.Ok) (hF : ∀ f args r, c.F f args = some r → FnOk c d f args r) (fi : FnIs c f ps body sc) (hps : args.args.map (·.arg) = ps) (hnd : ps.Nodup) (hfr : fresh = c.fresh)
    (hc : compF c.gt fresh mu ap args body sc = some mf) (hrf : c.fresh f = true → As c.fresh mf.body = true) {avs : List AV} {N : Nat} {o : Out} {σ' : St} {r : Res} (hlen : avs.length = mf.nargs) (hrun : Ah c.G c.F N mf.body (initS mf avs) = some (o, σ')) (hres : Jd o = some r) : FnOk c (d + 1) f avs r :=
  (fn_runW ok hF fi hps hnd hfr hc hrf hlen hrun hres).strong
section
variable {c : Cx} {g : Nat → List AV → Option Res}
mutual
theorem DenT.cg {h : Heap} {bad : Addr → Prop} : ∀ (x : AV) (v : Value), DenT c h bad x v ↔ DenT { c with F := g } h bad x v
  | .none, _ => by simp only [DenT]
  | .bool b, _ => by simp only [DenT]
  | .int i, _ => by simp only [DenT]
  | .str x, _ => by simp only [DenT]
  | .ilist xs, v => by simp only [DenT]
  | .list xs, v => by simp only [DenT]; rw [show DenL c h bad xs = DenL { c with F := g } h bad xs from funext fun vs => propext (DenL.cg xs vs)]
  | .tup xs, v => by simp only [DenT]; rw [show DenL c h bad xs = DenL { c with F := g } h bad xs from funext fun vs => propext (DenL.cg xs vs)]
  | .dict es, v => by simp only [DenT]
theorem DenL.cg {h : Heap} {bad : Addr → Prop} : ∀ (xs : List AV) (vs : List Value), DenL c h bad xs vs ↔ DenL { c with F := g } h bad xs vs
  | [], vs => by simp only [DenL]
  | x :: r, vs => by simp only [DenL, DenT.cg x]; rw [show DenL c h bad r = DenL { c with F := g } h bad r from funext fun vs => propext (DenL.cg r vs)]
end
theorem PE.cg {fs : List Addr} {bad : Addr → Prop} {cap fr : Bool} {s s' : Shared} {z : AV} {r : Value} : PE c fs bad cap fr s z r s' ↔ PE { c with F := g } fs bad cap fr s z r s' := by
  unfold PE DenR
  rw [DenT.cg (g := g)]
theorem FnOk.cg {d f : Nat} {args : List AV} {r : Res} (h : FnOk c d f args r) : FnOk { c with F := g } d f args r := fun A s vs bad rm fr ground badG badD fsb den => by
  refine wpAny_mono (h A s vs bad rm fr ground badG badD fsb ((DenL.cg (g := g) _ _).mpr den)) (fun v s' x => ?_) fun _ _ x => x
  obtain ⟨y, e, p⟩ := x
  exact ⟨y, e, PE.cg.mp p⟩
theorem FnOk.cg' {d f : Nat} {args : List AV} {r : Res} (h : FnOk { c with F := g } d f args r) : FnOk c d f args r := fun A s vs bad rm fr ground badG badD fsb den => by
  refine wpAny_mono (h A s vs bad rm fr ground badG badD fsb ((DenL.cg (g := g) _ _).mp den)) (fun v s' x => ?_) fun _ _ x => x
  obtain ⟨y, e, p⟩ := x
  exact ⟨y, e, PE.cg.mpr p⟩
theorem FnOkW.cg' {d f : Nat} {args : List AV} {r : Res} (h : FnOkW { c with F := g } d f args r) : FnOkW c d f args r := fun A s vs bad rm fr ground badG badD fsb den => by
  refine wpAny_mono (h A s vs bad rm fr ground badG badD fsb ((DenL.cg (g := g) _ _).mp den)) (fun v s' x => ?_) fun _ _ x => x
  obtain ⟨y, e, p⟩ := x
  exact ⟨y, e, PE.cg.mpr p⟩
theorem Cx.Ok.cg (ok : c.Ok) : ({ c with F := g } : Cx).Ok := {
  glob := fun x k h => by
    obtain ⟨v, h1, h2⟩ := ok.glob x k h
    refine ⟨v, h1, ?_⟩
    cases k with
    | tab => exact fun av e => ⟨(DenT.cg (g := g) _ _).mp (h2 av e).1, (h2 av e).2⟩
    | fn i b => exact h2
    | bi id => exact h2
    | ty n => exact h2
  nolimit := ok.nolimit
  seer := ok.seer
  tree := ok.tree
  digits := ok.digits }
end
structure FnTab (c : Cx) (fs : List (Option MF)) : Prop where
  fn : ∀ f mf, fs[f]? = some (some mf) → ∃ ps mu ap args body sc, FnIs c f ps body sc ∧ args.args.map (·.arg) = ps ∧ ps.Nodup ∧ compF c.gt c.fresh mu ap args body sc = some mf ∧ (c.fresh f = true → As c.fresh mf.body = true)
end Mine
end
section
open PySem
namespace Mine
set_option autoImplicit false
-- _trim: slots [a, n]
noncomputable def b0c0 : ME := (.and (.cmp .gt (.rd 1) (.lit (.int 0))) (.cmp .eq (.idx (.rd 0) (.bin .sub (.rd 1) (.lit (.int 1)))) (.lit (.int 0))))
noncomputable def b0d0 : MS := (.seq (.assign 1 (.bin .sub (.rd 1) (.lit (.int 1))))
 .skip)
noncomputable def b0 : MF := ⟨1, 2,
 (.seq (.assign 1 (.f1 .len (.rd 0)))
 (.seq (.while b0c0 b0d0)
 (.seq (.ret (.f1 .list (.sliceTo (.rd 0) (.rd 1))))
 .skip)))⟩
-- _gcd_int: slots [x, y, r]
noncomputable def b1c0 : ME := (.cmp .ne (.rd 1) (.lit (.int 0)))
noncomputable def b1d0 : MS := (.seq (.assign 2 (.bin .mod (.rd 0) (.rd 1)))
 (.seq (.assign 0 (.var 1))
 (.seq (.assign 1 (.var 2))
 .skip)))
noncomputable def b1 : MF := ⟨2, 3,
 (.seq (.assign 0 (.f1 .abs (.rd 0)))
 (.seq (.assign 1 (.f1 .abs (.rd 1)))
 (.seq (.while b1c0 b1d0)
 (.seq (.ret (.var 0))
 .skip))))⟩
-- _exact_divide: slots [a, b, rest, size, q, m, s, k]
noncomputable def b2d1 : MS := (.seq (.store 2 (.bin .add (.rd 7) (.rd 6)) (.bin .sub (.idx (.rd 2) (.bin .add (.rd 7) (.rd 6))) (.bin .mul (.rd 5) (.idx (.rd 1) (.rd 7)))))
 .skip)
noncomputable def b2c0 : ME := (.cmp .ge (.f1 .len (.rd 2)) (.f1 .len (.rd 1)))
noncomputable def b2d0 : MS := (.seq (.ite (.cmp .ne (.bin .mod (.idx (.rd 2) (.neg (.lit (.int 1)))) (.idx (.rd 1) (.neg (.lit (.int 1))))) (.lit (.int 0))) (.seq (.ret (.lit .none))
 .skip) .skip)
 (.seq (.assign 5 (.bin .fdiv (.idx (.rd 2) (.neg (.lit (.int 1)))) (.idx (.rd 1) (.neg (.lit (.int 1))))))
 (.seq (.assign 6 (.bin .sub (.f1 .len (.rd 2)) (.f1 .len (.rd 1))))
 (.seq (.store 4 (.rd 6) (.var 5))
 (.seq (.for [7] (.range (.lit (.int 0)) (.f1 .len (.rd 1)) (.lit (.int 1))) b2d1)
 (.seq (.fz 2 (.assignF 2 (.call 0 (.cons (.var 2) .nil))))
 (.seq (.ite (.not (.rd 2)) (.seq .brk
 .skip) .skip)
 .skip)))))))
noncomputable def b2 : MF := ⟨2, 8,
 (.seq (.assignF 2 (.f1 .list (.rd 0)))
 (.seq (.assign 3 (.bin .add (.bin .sub (.f1 .len (.rd 0)) (.f1 .len (.rd 1))) (.lit (.int 1))))
 (.seq (.ite (.cmp .lt (.rd 3) (.lit (.int 0))) (.seq (.assign 3 (.lit (.int 0)))
 .skip) .skip)
 (.seq (.assignF 4 (.bin .mul (.list (.cons (.lit (.int 0)) .nil)) (.rd 3)))
 (.seq (.while b2c0 b2d0)
 (.seq (.ite (.rd 2) (.seq (.ret (.lit .none))
 .skip) .skip)
 (.seq (.fz 4 (.ret (.call 0 (.cons (.var 4) .nil))))
 .skip)))))))⟩
-- _positive_rem: slots [x, y, z, lc, alc, sg, m, s, k]
noncomputable def b3d1 : MS := (.seq (.store 2 (.bin .add (.rd 8) (.rd 7)) (.bin .sub (.idx (.rd 2) (.bin .add (.rd 8) (.rd 7))) (.bin .mul (.rd 6) (.idx (.rd 1) (.rd 8)))))
 .skip)
noncomputable def b3c0 : ME := (.cmp .ge (.f1 .len (.rd 2)) (.f1 .len (.rd 1)))
noncomputable def b3d0 : MS := (.seq (.assign 6 (.bin .mul (.idx (.rd 2) (.neg (.lit (.int 1)))) (.rd 5)))
 (.seq (.assign 7 (.bin .sub (.f1 .len (.rd 2)) (.f1 .len (.rd 1))))
 (.seq (.assignF 2 (.comp (.bin .mul (.rd 4) (.rd 9)) 1 (.rd 2) (.lit (.bool true))))
 (.seq (.for [8] (.range (.lit (.int 0)) (.f1 .len (.rd 1)) (.lit (.int 1))) b3d1)
 (.seq (.fz 2 (.assignF 2 (.call 0 (.cons (.var 2) .nil))))
 .skip)))))
noncomputable def b3 : MF := ⟨2, 9,
 (.seq (.assignF 2 (.f1 .list (.rd 0)))
 (.seq (.assign 3 (.idx (.rd 1) (.neg (.lit (.int 1)))))
 (.seq (.assign 4 (.f1 .abs (.rd 3)))
 (.seq (.assign 5 (.lit (.int 1)))
 (.seq (.ite (.cmp .lt (.rd 3) (.lit (.int 0))) (.seq (.assign 5 (.neg (.lit (.int 1))))
 .skip) .skip)
 (.seq (.while b3c0 b3d0)
 (.seq (.fz 2 (.ret (.var 2)))
 .skip)))))))⟩
-- _shrink: slots [z, g, c]
noncomputable def b4d0 : MS := (.seq (.assign 1 (.call 1 (.cons (.var 1) (.cons (.var 2) .nil))))
 .skip)
noncomputable def b4 : MF := ⟨1, 3,
 (.seq (.assign 1 (.lit (.int 0)))
 (.seq (.for [2] (.var 0) b4d0)
 (.seq (.ite (.cmp .eq (.rd 1) (.lit (.int 0))) (.seq (.ret (.list .nil))
 .skip) .skip)
 (.seq (.ret (.comp (.bin .fdiv (.rd 3) (.rd 1)) 1 (.rd 0) (.lit (.bool true))))
 .skip))))⟩
-- show: slots [a, out, k, c, w, m]
noncomputable def b5c0 : ME := (.cmp .ge (.rd 2) (.lit (.int 0)))
noncomputable def b5d0 : MS := (.seq (.assign 3 (.idx (.rd 0) (.rd 2)))
 (.seq (.ite (.cmp .ne (.rd 3) (.lit (.int 0))) (.seq (.ite (.cmp .eq (.rd 1) (.lit (.str []))) (.seq (.ite (.cmp .lt (.rd 3) (.lit (.int 0))) (.seq (.assign 1 (.bin .add (.rd 1) (.lit (.str [45]))))
 .skip) .skip)
 .skip) (.seq (.ite (.cmp .lt (.rd 3) (.lit (.int 0))) (.seq (.assign 1 (.bin .add (.rd 1) (.lit (.str [32, 45, 32]))))
 .skip) (.seq (.assign 1 (.bin .add (.rd 1) (.lit (.str [32, 43, 32]))))
 .skip))
 .skip))
 (.seq (.ite (.cmp .eq (.rd 2) (.lit (.int 0))) (.seq (.assign 4 (.lit (.str [])))
 .skip) (.seq (.ite (.cmp .eq (.rd 2) (.lit (.int 1))) (.seq (.assign 4 (.lit (.str [120])))
 .skip) (.seq (.assign 4 (.bin .add (.lit (.str [120, 94])) (.f1 .str (.rd 2))))
 .skip))
 .skip))
 (.seq (.assign 5 (.f1 .abs (.rd 3)))
 (.seq (.ite (.cmp .eq (.rd 4) (.lit (.str []))) (.seq (.assign 1 (.bin .add (.rd 1) (.f1 .str (.rd 5))))
 .skip) (.seq (.ite (.cmp .eq (.rd 5) (.lit (.int 1))) (.seq (.assign 1 (.bin .add (.rd 1) (.rd 4)))
 .skip) (.seq (.assign 1 (.bin .add (.bin .add (.bin .add (.rd 1) (.f1 .str (.rd 5))) (.lit (.str [42]))) (.rd 4)))
 .skip))
 .skip))
 .skip)))) .skip)
 (.seq (.assign 2 (.bin .sub (.rd 2) (.lit (.int 1))))
 .skip)))
noncomputable def b5 : MF := ⟨1, 6,
 (.seq (.assign 1 (.lit (.str [])))
 (.seq (.assign 2 (.bin .sub (.f1 .len (.rd 0)) (.lit (.int 1))))
 (.seq (.while b5c0 b5d0)
 (.seq (.ite (.cmp .eq (.rd 1) (.lit (.str []))) (.seq (.ret (.lit (.str [48])))
 .skip) .skip)
 (.seq (.ret (.var 1))
 .skip)))))⟩
-- _is_digit: slots [ch]
noncomputable def b6 : MF := ⟨1, 1,
 (.seq (.ret (.and (.cmp .le (.lit (.str [48])) (.rd 0)) (.cmp .le (.rd 0) (.lit (.str [57])))))
 .skip)⟩
-- _spaces: slots [t, i]
noncomputable def b7c0 : ME := (.and (.cmp .lt (.rd 1) (.f1 .len (.rd 0))) (.cmp .eq (.idx (.rd 0) (.rd 1)) (.lit (.str [32]))))
noncomputable def b7d0 : MS := (.seq (.assign 1 (.bin .add (.rd 1) (.lit (.int 1))))
 .skip)
noncomputable def b7 : MF := ⟨2, 2,
 (.seq (.while b7c0 b7d0)
 (.seq (.ret (.var 1))
 .skip))⟩
-- _digits_end: slots [t, i]
noncomputable def b8c0 : ME := (.and (.cmp .lt (.rd 1) (.f1 .len (.rd 0))) (.call 6 (.cons (.idx (.rd 0) (.rd 1)) .nil)))
noncomputable def b8d0 : MS := (.seq (.assign 1 (.bin .add (.rd 1) (.lit (.int 1))))
 .skip)
noncomputable def b8 : MF := ⟨2, 2,
 (.seq (.while b8c0 b8d0)
 (.seq (.ret (.var 1))
 .skip))⟩
-- _number: slots [t, i, j, n, k]
noncomputable def b9d0 : MS := (.seq (.assign 3 (.bin .add (.bin .mul (.rd 3) (.lit (.int 10))) (.bin .sub (.f1 .ord (.idx (.rd 0) (.rd 4))) (.lit (.int 48)))))
 .skip)
noncomputable def b9 : MF := ⟨3, 5,
 (.seq (.assign 3 (.lit (.int 0)))
 (.seq (.for [4] (.range (.rd 1) (.rd 2) (.lit (.int 1))) b9d0)
 (.seq (.ret (.var 3))
 .skip)))⟩
-- _caret: slots [t, i, k, j]
noncomputable def b10 : MF := ⟨2, 4,
 (.seq (.assign 2 (.call 7 (.cons (.var 0) (.cons (.var 1) .nil))))
 (.seq (.ite (.and (.cmp .lt (.rd 2) (.f1 .len (.rd 0))) (.cmp .eq (.idx (.rd 0) (.rd 2)) (.lit (.str [94])))) (.seq (.assign 2 (.call 7 (.cons (.var 0) (.cons (.bin .add (.rd 2) (.lit (.int 1))) .nil))))
 (.seq (.ite (.and (.cmp .lt (.rd 2) (.f1 .len (.rd 0))) (.call 6 (.cons (.idx (.rd 0) (.rd 2)) .nil))) (.seq (.assign 3 (.call 8 (.cons (.var 0) (.cons (.var 2) .nil))))
 (.seq (.ret (.tup (.cons (.var 3) (.cons (.call 9 (.cons (.var 0) (.cons (.var 2) (.cons (.var 3) .nil)))) .nil))))
 .skip)) .skip)
 .skip)) .skip)
 (.seq (.ret (.tup (.cons (.var 1) (.cons (.lit (.int 1)) .nil))))
 .skip)))⟩
-- _term: slots [t, i, sign, j, coefficient, exponent, k, found]
noncomputable def b11 : MF := ⟨2, 8,
 (.seq (.assign 1 (.call 7 (.cons (.var 0) (.cons (.var 1) .nil))))
 (.seq (.assign 2 (.lit (.str [])))
 (.seq (.ite (.and (.cmp .lt (.rd 1) (.f1 .len (.rd 0))) (.or (.cmp .eq (.idx (.rd 0) (.rd 1)) (.lit (.str [43]))) (.cmp .eq (.idx (.rd 0) (.rd 1)) (.lit (.str [45]))))) (.seq (.assign 2 (.idx (.rd 0) (.rd 1)))
 (.seq (.assign 1 (.bin .add (.rd 1) (.lit (.int 1))))
 .skip)) .skip)
 (.seq (.assign 1 (.call 7 (.cons (.var 0) (.cons (.var 1) .nil))))
 (.seq (.ite (.and (.cmp .lt (.rd 1) (.f1 .len (.rd 0))) (.call 6 (.cons (.idx (.rd 0) (.rd 1)) .nil))) (.seq (.assign 3 (.call 8 (.cons (.var 0) (.cons (.var 1) .nil))))
 (.seq (.assign 4 (.call 9 (.cons (.var 0) (.cons (.var 1) (.cons (.var 3) .nil)))))
 (.seq (.assign 5 (.lit (.int 0)))
 (.seq (.assign 1 (.var 3))
 (.seq (.assign 6 (.call 7 (.cons (.var 0) (.cons (.var 1) .nil))))
 (.seq (.ite (.and (.cmp .lt (.rd 6) (.f1 .len (.rd 0))) (.cmp .eq (.idx (.rd 0) (.rd 6)) (.lit (.str [42])))) (.seq (.assign 6 (.call 7 (.cons (.var 0) (.cons (.bin .add (.rd 6) (.lit (.int 1))) .nil))))
 (.seq (.ite (.and (.cmp .lt (.rd 6) (.f1 .len (.rd 0))) (.cmp .eq (.idx (.rd 0) (.rd 6)) (.lit (.str [120])))) (.seq (.assign 7 (.call 10 (.cons (.var 0) (.cons (.bin .add (.rd 6) (.lit (.int 1))) .nil))))
 (.seq (.assign 1 (.idx (.rd 7) (.lit (.int 0))))
 (.seq (.assign 5 (.idx (.rd 7) (.lit (.int 1))))
 .skip))) .skip)
 .skip)) .skip)
 .skip)))))) (.seq (.ite (.and (.cmp .lt (.rd 1) (.f1 .len (.rd 0))) (.cmp .eq (.idx (.rd 0) (.rd 1)) (.lit (.str [120])))) (.seq (.assign 4 (.lit (.int 1)))
 (.seq (.assign 7 (.call 10 (.cons (.var 0) (.cons (.bin .add (.rd 1) (.lit (.int 1))) .nil))))
 (.seq (.assign 1 (.idx (.rd 7) (.lit (.int 0))))
 (.seq (.assign 5 (.idx (.rd 7) (.lit (.int 1))))
 .skip)))) (.seq (.ret (.lit .none))
 .skip))
 .skip))
 (.seq (.assign 1 (.call 7 (.cons (.var 0) (.cons (.var 1) .nil))))
 (.seq (.ret (.tup (.cons (.var 2) (.cons (.var 4) (.cons (.var 5) (.cons (.var 1) .nil))))))
 .skip)))))))⟩
-- read: slots [text, i, terms, first, found, coefficient, exponent, top, key]
noncomputable def b12c0 : ME := (.or (.rd 3) (.cmp .lt (.rd 1) (.f1 .len (.rd 0))))
noncomputable def b12d0 : MS := (.seq (.assign 4 (.call 11 (.cons (.var 0) (.cons (.var 1) .nil))))
 (.seq (.ite (.cmp .isNone (.rd 4) (.lit .none)) (.seq .raise
 .skip) .skip)
 (.seq (.ite (.and (.not (.rd 3)) (.cmp .eq (.idx (.rd 4) (.lit (.int 0))) (.lit (.str [])))) (.seq .raise
 .skip) .skip)
 (.seq (.assign 5 (.idx (.rd 4) (.lit (.int 1))))
 (.seq (.ite (.cmp .eq (.idx (.rd 4) (.lit (.int 0))) (.lit (.str [45]))) (.seq (.assign 5 (.neg (.rd 5)))
 .skip) .skip)
 (.seq (.assign 6 (.idx (.rd 4) (.lit (.int 2))))
 (.seq (.store 2 (.rd 6) (.bin .add (.get (.rd 2) (.rd 6) (.lit (.int 0))) (.rd 5)))
 (.seq (.assign 1 (.idx (.rd 4) (.lit (.int 3))))
 (.seq (.assign 3 (.lit (.bool false)))
 .skip)))))))))
noncomputable def b12d1 : MS := (.seq (.ite (.and (.cmp .gt (.rd 8) (.rd 7)) (.cmp .ne (.idx (.rd 2) (.rd 8)) (.lit (.int 0)))) (.seq (.assign 7 (.var 8))
 .skip) .skip)
 .skip)
noncomputable def b12 : MF := ⟨1, 9,
 (.seq (.assign 1 (.lit (.int 0)))
 (.seq (.assignF 2 .dict0)
 (.seq (.assign 3 (.lit (.bool true)))
 (.seq (.while b12c0 b12d0)
 (.seq (.assign 7 (.lit (.int 0)))
 (.seq (.fz 2 (.for [8] (.var 2) b12d1))
 (.seq (.ret (.call 0 (.cons (.comp (.get (.rd 2) (.rd 9) (.lit (.int 0))) 1 (.range (.lit (.int 0)) (.bin .add (.rd 7) (.lit (.int 1))) (.lit (.int 1))) (.lit (.bool true))) .nil)))
 .skip)))))))⟩
-- multiply: slots [a, b, out, i, x, j]
noncomputable def b13d1 : MS := (.seq (.store 2 (.bin .add (.rd 3) (.rd 5)) (.bin .add (.idx (.rd 2) (.bin .add (.rd 3) (.rd 5))) (.bin .mul (.rd 4) (.idx (.rd 1) (.rd 5)))))
 .skip)
noncomputable def b13d0 : MS := (.seq (.assign 4 (.idx (.rd 0) (.rd 3)))
 (.seq (.for [5] (.range (.lit (.int 0)) (.f1 .len (.rd 1)) (.lit (.int 1))) b13d1)
 .skip))
noncomputable def b13 : MF := ⟨2, 6,
 (.seq (.ite (.or (.not (.rd 0)) (.not (.rd 1))) (.seq (.ret (.list .nil))
 .skip) .skip)
 (.seq (.assignF 2 (.bin .mul (.list (.cons (.lit (.int 0)) .nil)) (.bin .sub (.bin .add (.f1 .len (.rd 0)) (.f1 .len (.rd 1))) (.lit (.int 1)))))
 (.seq (.for [3] (.range (.lit (.int 0)) (.f1 .len (.rd 0)) (.lit (.int 1))) b13d0)
 (.seq (.fz 2 (.ret (.call 0 (.cons (.var 2) .nil))))
 .skip))))⟩
-- derivative: slots [a]
noncomputable def b14 : MF := ⟨1, 1,
 (.seq (.ret (.call 0 (.cons (.comp (.bin .mul (.rd 1) (.idx (.rd 0) (.rd 1))) 1 (.range (.lit (.int 1)) (.f1 .len (.rd 0)) (.lit (.int 1))) (.lit (.bool true))) .nil)))
 .skip)⟩
-- value: slots [a, n, total, k]
noncomputable def b15c0 : ME := (.cmp .ge (.rd 3) (.lit (.int 0)))
noncomputable def b15d0 : MS := (.seq (.assign 2 (.bin .add (.bin .mul (.rd 2) (.rd 1)) (.idx (.rd 0) (.rd 3))))
 (.seq (.assign 3 (.bin .sub (.rd 3) (.lit (.int 1))))
 .skip))
noncomputable def b15 : MF := ⟨2, 4,
 (.seq (.assign 2 (.lit (.int 0)))
 (.seq (.assign 3 (.bin .sub (.f1 .len (.rd 0)) (.lit (.int 1))))
 (.seq (.while b15c0 b15d0)
 (.seq (.ret (.var 2))
 .skip))))⟩
-- divide: slots [a, b, result]
noncomputable def b16 : MF := ⟨2, 3,
 (.seq (.ite (.not (.rd 1)) (.seq .raise
 .skip) .skip)
 (.seq (.ite (.not (.rd 0)) (.seq (.ret (.list .nil))
 .skip) .skip)
 (.seq (.assign 2 (.call 2 (.cons (.var 0) (.cons (.var 1) .nil))))
 (.seq (.ite (.cmp .isNone (.rd 2) (.lit .none)) (.seq .raise
 .skip) .skip)
 (.seq (.ret (.var 2))
 .skip)))))⟩
-- content: slots [a, g, c]
noncomputable def b17d0 : MS := (.seq (.assign 1 (.call 1 (.cons (.var 1) (.cons (.var 2) .nil))))
 .skip)
noncomputable def b17 : MF := ⟨1, 3,
 (.seq (.ite (.not (.rd 0)) (.seq (.ret (.lit (.int 0)))
 .skip) .skip)
 (.seq (.assign 1 (.lit (.int 0)))
 (.seq (.for [2] (.var 0) b17d0)
 (.seq (.ite (.cmp .gt (.idx (.rd 0) (.neg (.lit (.int 1)))) (.lit (.int 0))) (.seq (.ret (.var 1))
 .skip) .skip)
 (.seq (.ret (.neg (.rd 1)))
 .skip)))))⟩
-- primitive: slots [a, c]
noncomputable def b18 : MF := ⟨1, 2,
 (.seq (.ite (.not (.rd 0)) (.seq (.ret (.list .nil))
 .skip) .skip)
 (.seq (.assign 1 (.call 17 (.cons (.var 0) .nil)))
 (.seq (.ret (.comp (.bin .fdiv (.rd 2) (.rd 1)) 1 (.rd 0) (.lit (.bool true))))
 .skip)))⟩
-- gcd: slots [a, b, g, x, y, r, p]
noncomputable def b19c0 : ME := (.rd 4)
noncomputable def b19d0 : MS := (.seq (.assign 5 (.call 3 (.cons (.var 3) (.cons (.var 4) .nil))))
 (.seq (.assign 3 (.var 4))
 (.seq (.assign 4 (.call 4 (.cons (.var 5) .nil)))
 .skip)))
noncomputable def b19 : MF := ⟨2, 7,
 (.seq (.assign 2 (.call 1 (.cons (.call 17 (.cons (.var 0) .nil)) (.cons (.call 17 (.cons (.var 1) .nil)) .nil))))
 (.seq (.assign 3 (.call 18 (.cons (.var 0) .nil)))
 (.seq (.assign 4 (.call 18 (.cons (.var 1) .nil)))
 (.seq (.while b19c0 b19d0)
 (.seq (.ite (.not (.rd 3)) (.seq (.ret (.list .nil))
 .skip) .skip)
 (.seq (.assign 6 (.call 18 (.cons (.var 3) .nil)))
 (.seq (.ret (.comp (.bin .mul (.rd 2) (.rd 7)) 1 (.rd 6) (.lit (.bool true))))
 .skip)))))))⟩
-- square_free: slots [a, c, b, g, w, i, out, y, z]
noncomputable def b20c0 : ME := (.cmp .gt (.f1 .len (.rd 4)) (.lit (.int 1)))
noncomputable def b20d0 : MS := (.seq (.assign 7 (.call 18 (.cons (.call 19 (.cons (.var 4) (.cons (.var 3) .nil))) .nil)))
 (.seq (.assign 8 (.call 16 (.cons (.var 4) (.cons (.var 7) .nil))))
 (.seq (.ite (.cmp .gt (.f1 .len (.rd 8)) (.lit (.int 1))) (.seq (.append 6 (.tup (.cons (.var 8) (.cons (.var 5) .nil))))
 .skip) .skip)
 (.seq (.assign 4 (.var 7))
 (.seq (.assign 3 (.call 16 (.cons (.var 3) (.cons (.var 7) .nil))))
 (.seq (.assign 5 (.bin .add (.rd 5) (.lit (.int 1))))
 .skip))))))
noncomputable def b20 : MF := ⟨1, 9,
 (.seq (.assign 1 (.call 17 (.cons (.var 0) .nil)))
 (.seq (.assign 2 (.call 18 (.cons (.var 0) .nil)))
 (.seq (.ite (.cmp .lt (.f1 .len (.rd 2)) (.lit (.int 2))) (.seq (.ret (.tup (.cons (.var 1) (.cons (.list .nil) .nil))))
 .skip) .skip)
 (.seq (.assign 3 (.call 18 (.cons (.call 19 (.cons (.var 2) (.cons (.call 14 (.cons (.var 2) .nil)) .nil))) .nil)))
 (.seq (.assign 4 (.call 16 (.cons (.var 2) (.cons (.var 3) .nil))))
 (.seq (.assign 5 (.lit (.int 1)))
 (.seq (.assignL 6 .nil)
 (.seq (.while b20c0 b20d0)
 (.seq (.fz 6 (.ret (.tup (.cons (.var 1) (.cons (.var 6) .nil)))))
 .skip)))))))))⟩
-- _law_times: slots [f, g, out, m]
noncomputable def b21d0 : MS := (.seq (.append 2 (.f1 .sum (.comp (.bin .mul (.idx (.rd 0) (.rd 4)) (.idx (.rd 1) (.bin .sub (.rd 3) (.rd 4)))) 1 (.range (.lit (.int 0)) (.f1 .len (.rd 0)) (.lit (.int 1))) (.chain .le .lt (.lit (.int 0)) (.bin .sub (.rd 3) (.rd 4)) (.f1 .len (.rd 1))))))
 .skip)
noncomputable def b21 : MF := ⟨2, 4,
 (.seq (.assignL 2 .nil)
 (.seq (.for [3] (.range (.lit (.int 0)) (.bin .sub (.bin .add (.f1 .len (.rd 0)) (.f1 .len (.rd 1))) (.lit (.int 1))) (.lit (.int 1))) b21d0)
 (.seq (.fz 2 (.ret (.var 2)))
 .skip)))⟩
-- _law_at: slots [f, x]
noncomputable def b22 : MF := ⟨2, 2,
 (.seq (.ret (.f1 .sum (.comp (.bin .mul (.idx (.rd 0) (.rd 2)) (.bin .pow (.rd 1) (.rd 2))) 1 (.range (.lit (.int 0)) (.f1 .len (.rd 0)) (.lit (.int 1))) (.lit (.bool true)))))
 .skip)⟩
-- _law_body: slots [size, grade, gap, zero, name]
noncomputable def b23 : MF := ⟨4, 5,
 (.seq (.assign 4 (.lit (.str [120])))
 (.seq (.ite (.or (.cmp .ne (.rd 1) (.lit (.int 1))) (.cmp .ne (.rd 3) (.lit (.str [])))) (.seq (.assign 4 (.bin .add (.bin .add (.bin .add (.bin .add (.bin .add (.lit (.str [120])) (.rd 2)) (.lit (.str [94]))) (.rd 2)) (.rd 3)) (.f1 .str (.rd 1))))
 .skip) .skip)
 (.seq (.ite (.and (.cmp .eq (.rd 1) (.lit (.int 0))) (.cmp .eq (.rd 3) (.lit (.str [])))) (.seq (.ret (.f1 .str (.rd 0)))
 .skip) .skip)
 (.seq (.ite (.and (.cmp .eq (.rd 0) (.lit (.int 1))) (.cmp .eq (.rd 3) (.lit (.str [])))) (.seq (.ret (.var 4))
 .skip) .skip)
 (.seq (.ret (.bin .add (.bin .add (.bin .add (.bin .add (.bin .add (.rd 3) (.f1 .str (.rd 0))) (.rd 2)) (.lit (.str [42]))) (.rd 2)) (.rd 4)))
 .skip)))))⟩
-- _law_pieces: slots [terms, space, gap, zero, out, c, grade, sign]
noncomputable def b24d0 : MS := (.seq (.assign 7 (.lit (.str [43])))
 (.seq (.ite (.cmp .lt (.rd 5) (.lit (.int 0))) (.seq (.assign 7 (.lit (.str [45])))
 .skip) .skip)
 (.seq (.append 4 (.bin .add (.bin .add (.rd 7) (.rd 1)) (.call 23 (.cons (.f1 .abs (.rd 5)) (.cons (.var 6) (.cons (.var 2) (.cons (.var 3) .nil)))))))
 .skip)))
noncomputable def b24 : MF := ⟨4, 8,
 (.seq (.assignL 4 .nil)
 (.seq (.for [5, 6] (.var 0) b24d0)
 (.seq (.fz 4 (.ret (.var 4)))
 .skip)))⟩
-- _law_shown: slots [a, line]
noncomputable def b25 : MF := ⟨1, 2,
 (.seq (.assign 1 (.join (.lit (.str [32])) (.call 24 (.cons (.comp (.tup (.cons (.idx (.rd 0) (.rd 2)) (.cons (.var 2) .nil))) 1 (.range (.bin .sub (.f1 .len (.rd 0)) (.lit (.int 1))) (.neg (.lit (.int 1))) (.neg (.lit (.int 1)))) (.cmp .ne (.idx (.rd 0) (.rd 2)) (.lit (.int 0)))) (.cons (.lit (.str [32])) (.cons (.lit (.str [])) (.cons (.lit (.str [])) .nil)))))))
 (.seq (.ite (.cmp .eq (.rd 1) (.lit (.str []))) (.seq (.ret (.lit (.str [48])))
 .skip) .skip)
 (.seq (.ite (.cmp .eq (.idx (.rd 1) (.lit (.int 0))) (.lit (.str [45]))) (.seq (.ret (.bin .add (.lit (.str [45])) (.sliceFrom (.rd 1) (.lit (.int 2)))))
 .skip) .skip)
 (.seq (.ret (.sliceFrom (.rd 1) (.lit (.int 2))))
 .skip))))⟩
-- _law_texts: slots [a, gap, zero, m, h, lead, bad, place, cut, terms, Hi, line, damaged, refused]
noncomputable def b26 : MF := ⟨9, 14,
 (.seq (.assign 9 (.bin .add (.bin .add (.list (.cons (.tup (.cons (.var 3) (.cons (.var 4) .nil))) .nil)) (.comp (.tup (.cons (.idx (.rd 0) (.rd 14)) (.cons (.var 14) .nil))) 1 (.range (.lit (.int 0)) (.f1 .len (.rd 0)) (.lit (.int 1))) (.lit (.bool true)))) (.list (.cons (.tup (.cons (.neg (.rd 3)) (.cons (.var 4) .nil))) .nil))))
 (.seq (.assign 10 (.call 24 (.cons (.var 9) (.cons (.var 1) (.cons (.var 1) (.cons (.var 2) .nil))))))
 (.seq (.assign 11 (.join (.rd 1) (.rd 10)))
 (.seq (.ite (.and (.cmp .eq (.rd 5) (.lit (.int 1))) (.cmp .ge (.rd 3) (.lit (.int 0)))) (.seq (.assign 11 (.sliceFrom (.rd 11) (.lit (.int 1))))
 .skip) .skip)
 (.seq (.ite (.cmp .ne (.call 12 (.cons (.bin .add (.bin .add (.rd 1) (.rd 11)) (.rd 1)) .nil)) (.rd 0)) (.seq (.ret (.lit (.bool false)))
 .skip) .skip)
 (.seq (.assign 7 (.bin .add (.lit (.int 1)) (.bin .mod (.rd 7) (.bin .sub (.f1 .len (.rd 10)) (.lit (.int 1))))))
 (.seq (.assign 12 (.bin .add (.bin .add (.join (.rd 1) (.sliceTo (.rd 10) (.rd 7))) (.lit (.str [43]))) (.idx (.glob (Str.ofString "_law_BAD")) (.rd 6))))
 (.seq (.ite (.cmp .gt (.rd 8) (.lit (.int 1))) (.seq (.assign 12 (.bin .add (.rd 12) (.join (.rd 1) (.sliceFrom (.rd 10) (.rd 7)))))
 .skip) .skip)
 (.seq (.ite (.cmp .eq (.rd 8) (.lit (.int 1))) (.seq (.assign 12 (.var 1))
 .skip) .skip)
 (.seq (.assign 13 (.lit (.bool false)))
 (.seq (.tryA none 12 (.cons (.var 12) .nil) 13 true)
 (.seq (.ite (.not (.rd 13)) (.seq (.ret (.lit (.bool false)))
 .skip) .skip)
 (.seq (.ret (.lit (.bool true)))
 .skip)))))))))))))⟩
-- _law_apart: slots [a, k, want, back, got, f, often, turn, line]
noncomputable def b27d1 : MS := (.seq (.assign 3 (.call 13 (.cons (.var 3) (.cons (.var 5) .nil))))
 .skip)
noncomputable def b27d0 : MS := (.seq (.for [7] (.range (.lit (.int 0)) (.rd 6) (.lit (.int 1))) b27d1)
 .skip)
noncomputable def b27 : MF := ⟨3, 9,
 (.seq (.assign 3 (.list .nil))
 (.seq (.ite (.cmp .ne (.rd 1) (.lit (.int 0))) (.seq (.assign 4 (.call 20 (.cons (.var 0) .nil)))
 (.seq (.ite (.cmp .ne (.rd 4) (.tup (.cons (.var 1) (.cons (.var 2) .nil)))) (.seq (.ret (.lit (.bool false)))
 .skip) .skip)
 (.seq (.assign 3 (.list (.cons (.idx (.rd 4) (.lit (.int 0))) .nil)))
 (.seq (.for [5, 6] (.idx (.rd 4) (.lit (.int 1))) b27d0)
 .skip)))) .skip)
 (.seq (.assign 8 (.call 5 (.cons (.var 3) .nil)))
 (.seq (.ite (.or (.cmp .ne (.rd 3) (.rd 0)) (.or (.cmp .ne (.rd 8) (.call 25 (.cons (.var 0) .nil))) (.cmp .ne (.call 12 (.cons (.var 8) .nil)) (.rd 0)))) (.seq (.ret (.lit (.bool false)))
 .skip) .skip)
 (.seq (.ret (.lit (.bool true)))
 .skip)))))⟩
-- _law_dividing: slots [a, k, l, t, mine, w, held, fits, q, refused, best, d]
noncomputable def b28d0 : MS := (.seq (.ite (.and (.cmp .eq (.bin .mod (.rd 1) (.rd 11)) (.lit (.int 0))) (.cmp .eq (.bin .mod (.rd 3) (.rd 11)) (.lit (.int 0)))) (.seq (.assign 10 (.comp (.bin .mul (.rd 11) (.rd 12)) 1 (.rd 10) (.lit (.bool true))))
 .skip) .skip)
 .skip)
noncomputable def b28 : MF := ⟨5, 12,
 (.seq (.assign 5 (.comp (.bin .mul (.rd 3) (.rd 12)) 1 (.idx (.glob (Str.ofString "_law_PARTS")) (.rd 2)) (.lit (.bool true))))
 (.seq (.assign 6 (.f1 .list (.rd 5)))
 (.seq (.assign 7 (.lit (.bool false)))
 (.seq (.ite (.and (.cmp .lt (.rd 2) (.lit (.int 10))) (.or (.cmp .eq (.rd 1) (.lit (.int 0))) (.and (.cmp .eq (.bin .mod (.rd 1) (.rd 3)) (.lit (.int 0))) (.or (.cmp .eq (.rd 2) (.lit (.int 0))) (.cmp .isIn (.rd 2) (.rd 4)))))) (.seq (.assign 7 (.lit (.bool true)))
 .skip) .skip)
 (.seq (.assign 8 (.list .nil))
 (.seq (.assign 9 (.lit (.bool false)))
 (.seq (.tryA (some 8) 16 (.cons (.var 0) (.cons (.var 5) .nil)) 9 true)
 (.seq (.ite (.or (.cmp .eq (.rd 9) (.rd 7)) (.not (.isType "list" (.rd 8)))) (.seq (.ret (.lit (.bool false)))
 .skip) .skip)
 (.seq (.ite (.and (.rd 7) (.cmp .ne (.call 13 (.cons (.var 8) (.cons (.var 5) .nil))) (.rd 0))) (.seq (.ret (.lit (.bool false)))
 .skip) .skip)
 (.seq (.assign 10 (.list (.cons (.lit (.int 1)) .nil)))
 (.seq (.ite (.or (.cmp .eq (.rd 1) (.lit (.int 0))) (.cmp .isIn (.rd 2) (.rd 4))) (.seq (.assign 10 (.f1 .list (.idx (.glob (Str.ofString "_law_PARTS")) (.rd 2))))
 .skip) .skip)
 (.seq (.for [11] (.tup (.cons (.lit (.int 2)) (.cons (.lit (.int 3)) .nil))) b28d0)
 (.seq (.ite (.cmp .eq (.rd 2) (.lit (.int 10))) (.seq (.assign 10 (.f1 .list (.rd 0)))
 (.seq (.ite (.cmp .lt (.rd 1) (.lit (.int 0))) (.seq (.assign 10 (.comp (.neg (.rd 12)) 1 (.rd 0) (.lit (.bool true))))
 .skip) .skip)
 .skip)) .skip)
 (.seq (.ite (.or (.cmp .ne (.call 19 (.cons (.var 0) (.cons (.var 5) .nil))) (.rd 10)) (.cmp .ne (.rd 5) (.rd 6))) (.seq (.ret (.lit (.bool false)))
 .skip) .skip)
 (.seq (.ret (.lit (.bool true)))
 .skip)))))))))))))))⟩
-- law: slots [script, i, j, e, k, u, v, pairs, a, want, often, part, f, Hz, turn, held, n, more]
noncomputable def b29d1 : MS := (.seq (.ite (.cmp .eq (.rd 13) (.rd 10)) (.seq (.assign 11 (.call 21 (.cons (.var 11) (.cons (.var 12) .nil))))
 .skip) .skip)
 .skip)
noncomputable def b29d2 : MS := (.seq (.assign 8 (.call 21 (.cons (.var 8) (.cons (.var 11) .nil))))
 .skip)
noncomputable def b29d0 : MS := (.seq (.assign 11 (.list (.cons (.lit (.int 1)) .nil)))
 (.seq (.for [12, 13] (.var 7) b29d1)
 (.seq (.ite (.cmp .gt (.f1 .len (.rd 11)) (.lit (.int 1))) (.seq (.append 9 (.tup (.cons (.var 11) (.cons (.var 10) .nil))))
 (.seq (.for [14] (.range (.lit (.int 0)) (.rd 10) (.lit (.int 1))) b29d2)
 .skip)) .skip)
 .skip)))
noncomputable def b29 : MF := ⟨1, 18,
 (.seq (.ite (.cmp .lt (.f1 .len (.rd 0)) (.lit (.int 15))) (.seq (.ret (.lit (.bool true)))
 .skip) .skip)
 (.seq (.assign 1 (.bin .mod (.idx (.rd 0) (.lit (.int 0))) (.lit (.int 10))))
 (.seq (.assign 2 (.bin .mod (.idx (.rd 0) (.lit (.int 1))) (.lit (.int 7))))
 (.seq (.assign 3 (.bin .add (.lit (.int 1)) (.bin .mod (.idx (.rd 0) (.lit (.int 2))) (.lit (.int 3)))))
 (.seq (.assign 4 (.bin .sub (.bin .mod (.idx (.rd 0) (.lit (.int 3))) (.lit (.int 9))) (.lit (.int 4))))
 (.seq (.assign 5 (.idx (.glob (Str.ofString "_law_PARTS")) (.rd 1)))
 (.seq (.assign 6 (.idx (.glob (Str.ofString "_law_PARTS")) (.rd 2)))
 (.seq (.assign 7 (.list (.cons (.tup (.cons (.var 5) (.cons (.lit (.int 1)) .nil))) (.cons (.tup (.cons (.var 6) (.cons (.var 3) .nil))) .nil))))
 (.seq (.ite (.cmp .eq (.rd 1) (.rd 2)) (.seq (.assign 7 (.list (.cons (.tup (.cons (.var 5) (.cons (.bin .add (.lit (.int 1)) (.rd 3)) .nil))) .nil)))
 .skip) .skip)
 (.seq (.assign 8 (.list (.cons (.var 4) .nil)))
 (.seq (.assignL 9 .nil)
 (.seq (.for [10] (.range (.lit (.int 1)) (.lit (.int 5)) (.lit (.int 1))) b29d0)
 (.seq (.ite (.cmp .eq (.rd 4) (.lit (.int 0))) (.seq (.assign 8 (.list .nil))
 .skip) .skip)
 (.seq (.assign 15 (.f1 .list (.rd 8)))
 (.seq (.ite (.not (.call 26 (.cons (.var 8) (.cons (.bin .mul (.lit (.str [32])) (.bin .mod (.idx (.rd 0) (.lit (.int 4))) (.lit (.int 3)))) (.cons (.bin .mul (.lit (.str [48])) (.bin .mod (.idx (.rd 0) (.lit (.int 5))) (.lit (.int 2)))) (.cons (.bin .sub (.bin .mod (.idx (.rd 0) (.lit (.int 6))) (.lit (.int 7))) (.lit (.int 3))) (.cons (.bin .mod (.idx (.rd 0) (.lit (.int 7))) (.lit (.int 12))) (.cons (.bin .mod (.idx (.rd 0) (.lit (.int 8))) (.lit (.int 2))) (.cons (.bin .mod (.idx (.rd 0) (.lit (.int 9))) (.lit (.int 12))) (.cons (.idx (.rd 0) (.lit (.int 10))) (.cons (.bin .mod (.idx (.rd 0) (.lit (.int 11))) (.lit (.int 4))) .nil))))))))))) (.seq (.ret (.lit (.bool false)))
 .skip) .skip)
 (.seq (.fz 9 (.ite (.not (.call 27 (.cons (.var 8) (.cons (.var 4) (.cons (.var 9) .nil))))) (.seq (.ret (.lit (.bool false)))
 .skip) .skip))
 (.seq (.ite (.not (.call 28 (.cons (.var 8) (.cons (.var 4) (.cons (.bin .mod (.idx (.rd 0) (.lit (.int 12))) (.lit (.int 11))) (.cons (.idx (.tup (.cons (.neg (.lit (.int 2))) (.cons (.neg (.lit (.int 1))) (.cons (.lit (.int 1)) (.cons (.lit (.int 2)) (.cons (.lit (.int 3)) .nil)))))) (.bin .mod (.idx (.rd 0) (.lit (.int 13))) (.lit (.int 5)))) (.cons (.tup (.cons (.var 1) (.cons (.var 2) .nil))) .nil))))))) (.seq (.ret (.lit (.bool false)))
 .skip) .skip)
 (.seq (.assign 16 (.idx (.rd 0) (.lit (.int 14))))
 (.seq (.assign 17 (.call 13 (.cons (.var 8) (.cons (.list (.cons (.neg (.rd 16)) (.cons (.lit (.int 1)) .nil))) .nil))))
 (.seq (.ite (.cmp .ne (.call 15 (.cons (.var 17) (.cons (.bin .add (.rd 16) (.lit (.int 1))) .nil))) (.bin .mul (.bin .mul (.rd 4) (.call 22 (.cons (.var 5) (.cons (.bin .add (.rd 16) (.lit (.int 1))) .nil)))) (.bin .pow (.call 22 (.cons (.var 6) (.cons (.bin .add (.rd 16) (.lit (.int 1))) .nil))) (.rd 3)))) (.seq (.ret (.lit (.bool false)))
 .skip) .skip)
 (.seq (.ite (.or (.cmp .ne (.call 16 (.cons (.var 17) (.cons (.list (.cons (.neg (.rd 16)) (.cons (.lit (.int 1)) .nil))) .nil))) (.rd 8)) (.cmp .ne (.rd 8) (.rd 15))) (.seq (.ret (.lit (.bool false)))
 .skip) .skip)
 (.seq (.ret (.lit (.bool true)))
 .skip))))))))))))))))))))))⟩
end Mine
end
section
open PySem
namespace Mine
set_option tactic.hygienic false
set_option autoImplicit false
noncomputable def tl (a : List Int) : Nat → Nat
  | 0 => 0
  | n + 1 => if a[n]? = some 0 then tl a n else n + 1
noncomputable def trim (a : List Int) : List Int := a.take (tl a a.length)
theorem tl_le (a : List Int) : ∀ n, tl a n ≤ n
  | 0 => Nat.le_refl _
  | n + 1 => by
    unfold tl; split
    · exact Nat.le_succ_of_le (tl_le a n)
    · exact Nat.le_refl _
section
variable {G : Str → Option AV} {F : Nat → List AV → Option Res}
theorem loop_trim {N : Nat} (a : List Int) : ∀ (n k : Nat), n ≤ a.length → n < k →
    Dz (Bb G F b0c0) (Ah G F N b0d0) k
      [some (false, .ilist a), some (false, .int n)] = some (.next, [some (false, .ilist a), some (false, .int (tl a n))])
  | n, 0, _, h => by exact absurd ‹_› (Nat.not_lt_zero _)
  | 0, k + 1, _, _ => by
    simp [Jf, K6, Q6, Q8, Q1, K9, slotR, Dr, Co, tl, b0c0]
  | n + 1, k + 1, hn, hk => by
    have hx : (n : Nat) < a.length := by exact Nat.lt_of_succ_le ‹_›
    have e1 : ((n : Int) + 1) - 1 = (n : Int) := by exact Int.add_sub_cancel _ _
    have ih := loop_trim (N := N) a n k (by exact Nat.le_of_lt ‹_›) (by exact Nat.lt_of_succ_lt_succ ‹_›)
    have hpos : decide ((n : Int) + 1 > 0) = true := by simp only [gt_iff_lt, decide_eq_true_eq]; lia
    simp only [tl, List.getElem?_eq_getElem hx, Option.some.injEq]
    by_cases h0 : a[n] = 0
    · rw [if_pos h0, ← ih]
      refine Hh ?_ ?_
      · first | exact rfl | simp only [b0c0, K6, K9, Q1, Q3, Q6, Q8, U3, V3, V5, V6, V9, W0, Co, Ct, Dt, Dr, Ay, Int.natCast_add, Int.natCast_one, e1, getI, Int.natCast_nonneg, if_true, Int.toNat_natCast, List.getElem?_eq_getElem hx, eq_int, hpos, h0, beq_self_eq_true]
      · first | exact rfl | simp only [b0d0, J0, J1, J3, K9, Q1, Q3, V3, V5, V6, V7, V8, Ct, Int.natCast_add, Int.natCast_one, e1]
    · rw [if_neg h0]
      have hb : (a[n] == 0) = false := by simpa using h0
      refine Fo ?_
      simp only [b0c0, K6, K9, Q1, Q3, Q6, Q8, U3, V3, V5, V6, V9, W0, Co, Ct, Dt, Dr, Ay, Int.natCast_add, Int.natCast_one, e1, getI, Int.natCast_nonneg, if_true, Int.toNat_natCast, List.getElem?_eq_getElem hx, eq_int, hpos, hb]
theorem run_trim (a : List Int) (N : Nat) (hN : a.length < N) : Ah G F N b0.body [some (false, .ilist a), none] = some (.ret (.ilist (trim a)), [some (false, .ilist a), some (false, .int (tl a a.length))]) := by
  have := loop_trim (G := G) (F := F) (N := N) a a.length N (Nat.le_refl _) hN
  simp only [b0, J1, J3, J9, K1, Q1, U2, U4, V3, V5, V6, V7, V8, Bv, Cl, this, takeop, Int.natCast_nonneg, if_true, Int.toNat_natCast]
  rfl
theorem loop_gcd {N : Nat} : ∀ (y x k : Nat) (r : Option (Bool × AV)), y < k → ∃ r', 
    Dz (Bb G F b1c0) (Ah G F N b1d0) k
      [some (false, .int x), some (false, .int y), r] = some (.next, [some (false, .int (Nat.gcd x y)), some (false, .int 0), r']) := by
  intro y
  induction y using Nat.strongRecOn with
  | ind y ih =>
    intro x k r hk
    cases k with
    | zero => exact absurd ‹_› (Nat.not_lt_zero _)
    | succ k =>
      by_cases h0 : y = 0
      · subst h0
        exact ⟨r, by simp [Jf, K6, Q8, Q1, K9, slotR, Dn, eq_int, Co, b1c0]⟩
      · have hlt : x % y < y := Nat.mod_lt _ (by exact Nat.pos_of_ne_zero ‹_›)
        obtain ⟨r', hr⟩ := ih (x % y) hlt y k (some (false, .int (x % y : Nat))) (by with_reducible exact ZZ ‹_› ‹_›)
        refine ⟨r', ?_⟩
        have hb : ((y : Int) == 0) = false := by simp; assumption
        have hne : ¬ (y : Int) = 0 := by exact mt Int.ofNat_inj.mp ‹_›
        have hm : (x : Int).fmod y = ((x % y : Nat) : Int) := by
          rw [Int.fmod_eq_emod_of_nonneg _ (by exact Int.natCast_nonneg _)]; simp
        rw [Nat.gcd_comm x y, Nat.gcd_rec y x, Nat.gcd_comm (x % y) y, ← hr]
        refine Hh ?_ ?_
        · first | exact rfl | simp only [b1c0, K6, K9, Q1, Q8, V3, V5, V6, V9, W0, Co, Dn, eq_int, hb, Bool.not_false]
        · first | exact rfl | simp only [b1d0, J0, J1, J3, Q0, Q1, Q3, V3, V4, V5, V6, V7, V8, Cw, hne, if_false, hm]
theorem run_gcd (x y : Int) (N : Nat) (hN : y.natAbs < N) : ∃ σ', Ah G F N b1.body [some (false, .int x), some (false, .int y), none] = some (.ret (.int (Int.gcd x y)), σ') := by
  obtain ⟨r', h⟩ := loop_gcd (G := G) (F := F) (N := N) y.natAbs x.natAbs N none hN
  refine ⟨[some (false, .int (Nat.gcd x.natAbs y.natAbs)), some (false, .int 0), r'], ?_⟩
  simp only [b1, J1, J3, J9, K1, Q0, Q1, U2, V3, V4, V5, V6, V7, V8, Di, h]
  rfl
end
end Mine
end
section
open PySem
namespace Mine
set_option tactic.hygienic false
set_option autoImplicit false
theorem Fu (xs : List Int) : getI xs (-1) = xs.getLast? := by
  unfold getI
  rw [if_neg (by decide)]
  cases xs with
  | nil => rfl
  | cons a r =>
    rw [if_pos (by simp only [List.length_cons]; lia), List.getLast?_eq_getElem?]
    congr 1
    simp only [List.length_cons]; lia
theorem rep0 (n : Nat) : (List.replicate n [(0 : Int)]).flatten = List.replicate n 0 := by
  induction n with
  | zero => rfl
  | succ n ih => simp only [List.replicate_succ, List.flatten_cons, ih]; rfl
theorem Ek (n : Nat) (h : n ≤ LIM) : (if (True ∨ (1 : Int) = -1) ∧ -(LIM : Int) ≤ 0 ∧ (0 : Int) ≤ LIM ∧ -(LIM : Int) ≤ (n : Int) ∧ (n : Int) ≤ LIM then some (AV.ilist (Ex 0 n 1)) else none) = some (.ilist ((List.range n).map fun (i : Nat) => (i : Int))) := by
  rw [if_pos ⟨.inl trivial, by decide, by exact Int.natCast_nonneg _, by exact ZF _, by exact Int.ofNat_le.mpr ‹_›⟩, range_nat]
noncomputable def Fx (m : Int) (b : List Int) (s : Nat) (r : List Int) (k : Nat) : Option (List Int) := match r[k + s]?, b[k]? with
  | some x, some y => if Bd m y then some (r.set (k + s) (x - m * y)) else none
  | _, _ => none
noncomputable def Bi (m : Int) (b : List Int) (s : Nat) : List Nat → List Int → Option (List Int)
  | [], r => some r
  | k :: ks, r => match Fx m b s r k with
    | some r' => Bi m b s ks r'
    | none => none
theorem Bh {α : Type} (xs : List α) (n : Nat) : getI xs (n : Int) = xs[n]? := by
  unfold getI; rw [if_pos (by exact Int.natCast_nonneg _)]; simp
theorem Es (ks : List Nat) : Ff (.ilist (ks.map fun (i : Nat) => (i : Int))) = some (ks.map fun (i : Nat) => AV.int (i : Int)) := by
  simp only [Ff, List.map_map]; rfl
theorem Il {r : List Int} {k : Nat} {x : Int} (h : k < r.length) : storeop (.ilist r) (.int (k : Int)) (.int x) = some (.ilist (r.set k x)) := by
  simp only [storeop]; rw [if_pos ⟨by exact Int.natCast_nonneg _, by exact Int.ofNat_lt.mpr ‹_›⟩]; simp
section
variable {G : Str → Option AV} {F : Nat → List AV → Option Res} {N : Nat}
set_option tactic.hygienic true in
theorem for_sub2 {A S Q : Option (Bool × AV)} {b : List Int} {m : Int} {s : Nat} : ∀ (ks : List Nat) (r r' : List Int) (kv : Option (Bool × AV)), Bi m b s ks r = some r' → ∃ kv',
    Dy [7] (Ah G F N b2d1) (ks.map fun (i : Nat) => AV.int (i : Int))
      [A, some (false, .ilist b), some (true, .ilist r), S, Q, some (false, .int m), some (false, .int (s : Int)), kv] = some (.next, [A, some (false, .ilist b), some (true, .ilist r'), S, Q, some (false, .int m), some (false, .int (s : Int)), kv'])
  | [], r, r', kv, h => by simp only [Bi, Option.some.injEq] at h; subst h; exact ⟨kv, rfl⟩
  | k :: ks, r, r', kv, h => by
    simp only [Bi] at h
    cases q : Fx m b s r k with
    | none => rw [q] at h; cases h
    | some r₁ =>
      rw [q] at h
      obtain ⟨kv', ih⟩ := for_sub2 (A := A) (S := S) (Q := Q) ks r₁ r' (some (false, .int (k : Int))) h
      refine ⟨kv', ?_⟩
      unfold Fx at q
      split at q
      · rename_i x y hx hy
        split at q <;> cases q
        rename_i hm
        have hlt := (List.getElem?_eq_some_iff.mp hx).1
        have e1 : (k : Int) + (s : Int) = ((k + s : Nat) : Int) := by exact (Int.natCast_add _ _).symm
        rw [List.map_cons, ← ih]
        refine Fs ?_
        simp only [b2d1, J0, J1, J6, Q1, Q3, U3, V3, V5, V6, V7, V8, V9, Cy, Ct, Cq, Ay, e1, Bh, hx, hy, hm, if_true, Il hlt]
      · cases q
noncomputable def Gp (b : List Int) : Nat → List Int → List Int → Option (Option (List Int × List Int))
  | 0, _, _ => none
  | n + 1, rest, q => if rest.length < b.length then some (some (rest, q)) else
    match rest.getLast?, b.getLast? with
    | some x, some y => if y = 0 then none else if x.fmod y ≠ 0 then some none else
      if rest.length - b.length < q.length then
        match Bi (x.fdiv y) b (rest.length - b.length) (List.range b.length) rest with
        | none => none
        | some r => if trim r = [] then some (some ([], q.set (rest.length - b.length) (x.fdiv y))) else Gp b n (trim r) (q.set (rest.length - b.length) (x.fdiv y))
      else none
    | _, _ => none
noncomputable def Je (a b : List Int) : Option (Option (List Int)) := if LIM ≤ a.length ∨ LIM < b.length then none else
  match Gp b (a.length + 1) a (List.replicate (a.length + 1 - b.length) 0) with
  | none => none
  | some none => some none
  | some (some (r, q)) => if r = [] then some (some (trim q)) else some none
theorem trim_len (a : List Int) : (trim a).length ≤ a.length := by
  unfold trim; rw [List.length_take]; exact Nat.min_le_right _ _
theorem Ey (r : List Int) : r.isEmpty = decide (r = []) := by cases r <;> rfl
set_option tactic.hygienic true in
theorem while_ex (h0 : ∀ a, F 0 [.ilist a] = some (.val (.ilist (trim a)))) {A S : Option (Bool × AV)} {b : List Int} (hb : b.length ≤ LIM) : ∀ (n : Nat) (rest q : List Int) (mv sv kv : Option (Bool × AV)) (res : Option (List Int × List Int)) (k : Nat), Gp b n rest q = some res → n ≤ k →
    ∃ σ' mv' sv' kv', Dz (Bb G F b2c0) (Ah G F N b2d0) k [A, some (false, .ilist b), some (true, .ilist rest), S, some (true, .ilist q), mv, sv, kv] = some (match res with
      | none => (.ret .none, σ')
      | some (r', q') => (.next, [A, some (false, .ilist b), some (true, .ilist r'), S, some (true, .ilist q'), mv', sv', kv']))
  | 0, rest, q, mv, sv, kv, res, k, h, _ => by simp [Gp] at h
  | n + 1, rest, q, mv, sv, kv, res, 0, h, hk => by exact absurd ‹_› (Nat.not_succ_le_zero _)
  | n + 1, rest, q, mv, sv, kv, res, k + 1, h, hk => by
    simp only [Gp] at h
    split at h
    · rename_i hlt
      cases h
      refine ⟨[], mv, sv, kv, ?_⟩
      have hd : decide ((rest.length : Int) ≥ (b.length : Int)) = false := by simp only [ge_iff_le, decide_eq_false_iff_not]; exact mt Int.ofNat_le.mp (Nat.not_le_of_lt ‹_›)
      exact Fo (by first | exact rfl | simp only [b2c0, K6, Q1, Q8, U2, V3, V5, V6, V9, W0, Co, Ds, Bv, hd])
    · rename_i hge
      have hd : decide ((rest.length : Int) ≥ (b.length : Int)) = true := by simp only [ge_iff_le, decide_eq_true_eq]; exact Int.ofNat_le.mpr (Nat.le_of_not_lt ‹_›)
      have hc : Bb G F b2c0 [A, some (false, .ilist b), some (true, .ilist rest), S, some (true, .ilist q), mv, sv, kv] = some true := by simp only [b2c0, K6, Q1, Q8, U2, V3, V5, V6, V9, W0, Co, Ds, Bv, hd]
      split at h
      · rename_i x y hx hy
        split at h
        · cases h
        · rename_i hy0
          split at h
          · rename_i hmod
            cases h
            have hb1 : (x.fmod y == 0) = false := by simpa using hmod
            refine ⟨[A, some (false, .ilist b), some (true, .ilist rest), S, some (true, .ilist q), mv, sv, kv], none, none, none, ?_⟩
            exact w_ret hc (by first | exact rfl | simp only [b2d0, J1, J8, K1, K6, K9, Q1, Q3, Q4, Q8, U3, V3, V5, V6, V9, W0, Co, Cw, Dn, Ay, Fu, hx, hy, hy0, if_false, eq_int, hb1, Bool.not_false])
          · rename_i hmod
            have hmod : x.fmod y = 0 := by simpa using hmod
            split at h
            · rename_i hs
              split at h
              · cases h
              · rename_i r hr
                have es : (rest.length : Int) - (b.length : Int) = ((rest.length - b.length : Nat) : Int) := by lia
                obtain ⟨kv', hfor⟩ := for_sub2 (G := G) (F := F) (N := N) (A := A) (S := S) (Q := some (true, .ilist (q.set (rest.length - b.length) (x.fdiv y)))) (List.range b.length) rest r kv hr
                split at h
                · rename_i ht
                  cases h
                  refine ⟨[], some (false, .int (x.fdiv y)), some (false, .int ((rest.length - b.length : Nat) : Int)), kv', ?_⟩
                  exact w_brk hc (by first | exact rfl | simp only [b2d0, J0, J1, J2, J3, J4, J6, J8, K0, K3, K6, K7, K8, K9, Q0, Q1, Q3, Q4, Q5, Q8, U1, U2, U3, V2, V3, V4, V5, V6, V7, V8, V9, W0, Co, Cf, Ct, Cz, Cw, Dn, Bv, Ay, Fu, hx, hy, hy0, if_false, eq_int, hmod, beq_self_eq_true, Bool.not_true, es, Il hs, Ek _ hb, Es, hfor, freeze, h0, isList, if_true, ht, List.isEmpty_nil, Bool.not_false])
                · rename_i ht
                  have hte : (trim r).isEmpty = false := by rw [Ey]; simpa using ht
                  obtain ⟨σ', mv', sv', kv'', ih⟩ := while_ex h0 (A := A) (S := S) hb n (trim r) (q.set (rest.length - b.length) (x.fdiv y)) (some (false, .int (x.fdiv y))) (some (false, .int ((rest.length - b.length : Nat) : Int))) kv' res k h (by exact Nat.le_of_succ_le_succ ‹_›)
                  refine ⟨σ', mv', sv', kv'', ?_⟩
                  rw [← ih]
                  refine Hh hc ?_
                  simp only [b2d0, J0, J1, J2, J3, J4, J6, J8, K0, K6, K7, K8, K9, Q0, Q1, Q3, Q4, Q5, Q8, U1, U2, U3, V2, V3, V4, V5, V6, V7, V8, V9, W0, Co, Cf, Ct, Cz, Cw, Dn, Bv, Ay, Fu, hx, hy, hy0, if_false, eq_int, hmod, beq_self_eq_true, Bool.not_true, es, Il hs, Ek _ hb, Es, hfor, freeze, h0, isList, if_true, hte, Bool.not_false]
            · cases h
      · cases h
set_option tactic.hygienic true in
theorem run_exdiv (h0 : ∀ a, F 0 [.ilist a] = some (.val (.ilist (trim a)))) (a b : List Int) (r : Option (List Int)) (hr : Je a b = some r) (hN : a.length + 1 ≤ N) :
    ∃ σ', Ah G F N b2.body [some (false, .ilist a), some (false, .ilist b), none, none, none, none, none, none] = some (.ret (match r with | none => .none | some q => .ilist q), σ') := by
  unfold Je at hr
  split at hr
  · cases hr
  · rename_i hlim
    simp only [not_or, Nat.not_le, Nat.not_lt] at hlim
    obtain ⟨hla, hlb⟩ := hlim
    have hL : LIM = 1048576 := rfl
    have hmul : ∀ n : Nat, n ≤ LIM → Ab .mul (.ilist [0]) (.int (n : Int)) = some (.ilist (List.replicate n 0)) := fun n hn => by
      simp only [Cc]
      rw [if_pos ⟨by exact Int.natCast_nonneg _, by exact Int.ofNat_le.mpr ‹_›, by simp only [List.length_cons, List.length_nil, Int.toNat_natCast]; lia⟩, Int.toNat_natCast, rep0]
    have pre : Ah G F N b2.body [some (false, .ilist a), some (false, .ilist b), none, none, none, none, none, none] =
        Ah G F N (.seq (.while b2c0 b2d0) (.seq (.ite (.rd 2) (.seq (.ret (.lit .none)) .skip) .skip) (.seq (.fz 4 (.ret (.call 0 (.cons (.var 4) .nil)))) .skip)))
          [some (false, .ilist a), some (false, .ilist b), some (true, .ilist a), some (false, .int ((a.length + 1 - b.length : Nat) : Int)), some (true, .ilist (List.replicate (a.length + 1 - b.length) 0)), none, none, none] := by
      simp only [b2]
      rw [Ag (σ' := [some (false, .ilist a), some (false, .ilist b), some (true, .ilist a), none, none, none, none, none]) (by first | exact rfl | simp only [J0, J1, J2, J3, J4, J5, J6, J7, J8, J9, K0, K1, K2, K3, K4, K5, K6, K7, K8, K9, Q0, Q1, Q2, Q3, Q4, Q5, Q6, Q7, Q8, Q9, U0, U1, U2, U3, U4, U5, U6, U7, U8, U9, V0, V1, V2, V3, V4, V5, V6, V7, V8, V9, W0, Cm, Co, Cs, Cr, Cf, Cn, Cy, Cu, Dm, Dj, Dl, Dk, Ct, Cq, Cp, Cc, Cg, Cz, Cw, Cv, Dt, Dn, Dp, Dq, Dr, Ds, Da, Db, Dc, Dd, Ci, Ch, Ce, Cd, Bz, Bx, By, Bu, Bq, Br, Bt, Bs, Bp, Bm, Bn, Bo, Do, Cb, Bv, Bw, Ca, Di, Cl, Ck, Cj, De, Df, Dh, isList, if_true])]
      rw [Ag (σ' := [some (false, .ilist a), some (false, .ilist b), some (true, .ilist a), some (false, .int ((a.length : Int) - (b.length : Int) + 1)), none, none, none, none]) (by first | exact rfl | simp only [J0, J1, J2, J3, J4, J5, J6, J7, J8, J9, K0, K1, K2, K3, K4, K5, K6, K7, K8, K9, Q0, Q1, Q2, Q3, Q4, Q5, Q6, Q7, Q8, Q9, U0, U1, U2, U3, U4, U5, U6, U7, U8, U9, V0, V1, V2, V3, V4, V5, V6, V7, V8, V9, W0, Cm, Co, Cs, Cr, Cf, Cn, Cy, Cu, Dm, Dj, Dl, Dk, Ct, Cq, Cp, Cc, Cg, Cz, Cw, Cv, Dt, Dn, Dp, Dq, Dr, Ds, Da, Db, Dc, Dd, Ci, Ch, Ce, Cd, Bz, Bx, By, Bu, Bq, Br, Bt, Bs, Bp, Bm, Bn, Bo, Do, Cb, Bv, Bw, Ca, Di, Cl, Ck, Cj, De, Df, Dh])]
      rw [Ag (σ' := [some (false, .ilist a), some (false, .ilist b), some (true, .ilist a), some (false, .int ((a.length + 1 - b.length : Nat) : Int)), none, none, none, none]) (by
        by_cases hneg : (a.length : Int) - (b.length : Int) + 1 < 0
        · have e0 : ((a.length + 1 - b.length : Nat) : Int) = 0 := by lia
          simp only [J0, J1, J3, J8, K6, K9, Q1, Q8, V3, V5, V6, V7, V8, V9, W0, Co, Dp, hneg, decide_true, e0]
        · have e0 : ((a.length + 1 - b.length : Nat) : Int) = (a.length : Int) - (b.length : Int) + 1 := by lia
          simp only [J0, J8, K6, K9, Q1, Q8, V3, V5, V6, V9, W0, Co, Dp, hneg, decide_false, e0])]
      rw [Ag (σ' := [some (false, .ilist a), some (false, .ilist b), some (true, .ilist a), some (false, .int ((a.length + 1 - b.length : Nat) : Int)), some (true, .ilist (List.replicate (a.length + 1 - b.length) 0)), none, none, none]) (by
        have := hmul (a.length + 1 - b.length) (by lia)
        rw [J4, Q3, U6, K8, K9, K7, Q1, V3]
        simp only [List.length_cons, List.length_nil, V5, V6, mkL1]
        rw [if_pos (by with_reducible exact Nat.le_trans (by repeat' first | assumption | apply Nat.add_le_add | exact Nat.le_refl _) (by decide))]
        simp only [this, isList, if_true, V7, V8])]
    rw [pre]
    split at hr
    · cases hr
    · rename_i hw
      cases hr
      obtain ⟨σ', mv', sv', kv', h⟩ := while_ex (G := G) (N := N) h0 (A := some (false, .ilist a)) (S := some (false, .int ((a.length + 1 - b.length : Nat) : Int))) hlb _ _ _ none none none _ N hw hN
      exact ⟨σ', Kj (by rw [J9]; exact h)⟩
    · rename_i rr q hw
      obtain ⟨σ', mv', sv', kv', h⟩ := while_ex (G := G) (N := N) h0 (A := some (false, .ilist a)) (S := some (false, .int ((a.length + 1 - b.length : Nat) : Int))) hlb _ _ _ none none none _ N hw hN
      dsimp only at h
      rw [Ag (by rw [J9]; exact h)]
      split at hr
      · rename_i hrr
        cases hr; subst hrr
        refine ⟨[some (false, .ilist a), some (false, .ilist b), some (true, .ilist []), some (false, .int ((a.length + 1 - b.length : Nat) : Int)), some (false, .ilist q), mv', sv', kv'], ?_⟩
        simp only [J0, J1, J2, J8, K1, K6, K7, K8, Q0, Q1, U1, V3, V4, V5, V6, V7, V8, W0, Cf, List.isEmpty_nil, Bool.not_true, freeze, h0]
      · rename_i hrr
        cases hr
        have hte : rr.isEmpty = false := by rw [Ey]; simpa using hrr
        refine ⟨[some (false, .ilist a), some (false, .ilist b), some (true, .ilist rr), some (false, .int ((a.length + 1 - b.length : Nat) : Int)), some (true, .ilist q), mv', sv', kv'], ?_⟩
        simp only [J1, J8, K1, K6, K9, Q1, V3, V5, V6, W0, Cf, hte, Bool.not_false]
end
end Mine
end
section
open PySem
namespace Mine
set_option tactic.hygienic false
set_option autoImplicit false
noncomputable def Fj (c : Int) (z : List Int) : Option (List Int) := if z.all (Bd c) then some (z.map (c * ·)) else none
section
variable {G : Str → Option AV} {F : Nat → List AV → Option Res} {N : Nat}
theorem Gr {σ : St} {elt : ME} {z : List Int} (g : Int → Int) (he : ∀ c ∈ z, Ae G F elt (σ ++ [some (false, .int c)]) = some (.int (g c))) : Ev (Bb G F (.lit (.bool true))) (Ae G F elt) 1 σ (z.map AV.int) = some ((z.map g).map AV.int) := by
  rw [Gs (fun v => match v with | .int c => .int (g c) | v => v)]
  · simp only [List.map_map]; rfl
  · intro y _; rfl
  · intro y hy
    obtain ⟨c, hc, rfl⟩ := List.mem_map.mp hy
    exact he c hc
theorem map_nat (ks : List Nat) : ((ks.map fun (i : Nat) => (i : Int)).map AV.int) = ks.map fun (i : Nat) => AV.int (i : Int) := by
  rw [List.map_map]; rfl
theorem Bj (z : List Int) : Ff (.ilist z) = some (z.map AV.int) := rfl
noncomputable def prLoop (y : List Int) (alc sg : Int) : Nat → List Int → Option (List Int)
  | 0, _ => none
  | n + 1, z => if z.length < y.length then some z else
    match z.getLast? with
    | some x => if Bd x sg then
        match Fj alc z with
        | some z1 => match Bi (x * sg) y (z.length - y.length) (List.range y.length) z1 with
          | some r => prLoop y alc sg n (trim r)
          | none => none
        | none => none
      else none
    | none => none
noncomputable def posrem (x y : List Int) : Option (List Int) := if LIM < x.length ∨ LIM < y.length then none else match y.getLast? with
  | some lc => prLoop y lc.natAbs (if lc < 0 then -1 else 1) (x.length + 1) x
  | none => none
set_option tactic.hygienic true in
theorem for_sub3 {A L L2 S : Option (Bool × AV)} {b : List Int} {m : Int} {s : Nat} : ∀ (ks : List Nat) (r r' : List Int) (kv : Option (Bool × AV)), Bi m b s ks r = some r' → ∃ kv',
    Dy [8] (Ah G F N b3d1) (ks.map fun (i : Nat) => AV.int (i : Int))
      [A, some (false, .ilist b), some (true, .ilist r), L, L2, S, some (false, .int m), some (false, .int (s : Int)), kv] = some (.next, [A, some (false, .ilist b), some (true, .ilist r'), L, L2, S, some (false, .int m), some (false, .int (s : Int)), kv'])
  | [], r, r', kv, h => by simp only [Bi, Option.some.injEq] at h; subst h; exact ⟨kv, rfl⟩
  | k :: ks, r, r', kv, h => by
    simp only [Bi] at h
    cases q : Fx m b s r k with
    | none => rw [q] at h; cases h
    | some r₁ =>
      rw [q] at h
      obtain ⟨kv', ih⟩ := for_sub3 (A := A) (L := L) (L2 := L2) (S := S) ks r₁ r' (some (false, .int (k : Int))) h
      refine ⟨kv', ?_⟩
      unfold Fx at q
      split at q
      · rename_i x y hx hy
        split at q <;> cases q
        rename_i hm
        have hlt := (List.getElem?_eq_some_iff.mp hx).1
        have e1 : (k : Int) + (s : Int) = ((k + s : Nat) : Int) := by exact (Int.natCast_add _ _).symm
        rw [List.map_cons, ← ih]
        refine Fs ?_
        simp only [b3d1, J0, J1, J6, Q1, Q3, U3, V3, V5, V6, V7, V8, V9, Cy, Ct, Cq, Ay, e1, Bh, hx, hy, hm, if_true, Il hlt]
      · cases q
theorem subLoop_len {m : Int} {b : List Int} {s : Nat} : ∀ (ks : List Nat) {r r' : List Int}, Bi m b s ks r = some r' → r'.length = r.length
  | [], r, r', h => by simp only [Bi, Option.some.injEq] at h; rw [h]
  | k :: ks, r, r', h => by
    simp only [Bi] at h
    cases q : Fx m b s r k with
    | none => rw [q] at h; cases h
    | some r₁ =>
      rw [q] at h
      rw [subLoop_len ks h]
      unfold Fx at q
      split at q
      · split at q <;> cases q
        simp
      · cases q
set_option tactic.hygienic true in
theorem while_pr (h0 : ∀ a, F 0 [.ilist a] = some (.val (.ilist (trim a)))) {A L : Option (Bool × AV)} {y : List Int} {alc sg : Int} (hy : y.length ≤ LIM) : ∀ (n : Nat) (z : List Int) (mv sv kv : Option (Bool × AV)) (r : List Int) (k : Nat), prLoop y alc sg n z = some r → n ≤ k → z.length ≤ LIM → ∃ mv' sv' kv',
    Dz (Bb G F b3c0) (Ah G F N b3d0) k [A, some (false, .ilist y), some (true, .ilist z), L, some (false, .int alc), some (false, .int sg), mv, sv, kv] =
      some (.next, [A, some (false, .ilist y), some (true, .ilist r), L, some (false, .int alc), some (false, .int sg), mv', sv', kv'])
  | 0, z, mv, sv, kv, r, k, h, _, _ => by simp [prLoop] at h
  | n + 1, z, mv, sv, kv, r, 0, h, hk, _ => by exact absurd ‹_› (Nat.not_succ_le_zero _)
  | n + 1, z, mv, sv, kv, r, k + 1, h, hk, hz => by
    simp only [prLoop] at h
    split at h
    · rename_i hlt
      cases h
      have hd : decide ((z.length : Int) ≥ (y.length : Int)) = false := by simp only [ge_iff_le, decide_eq_false_iff_not]; exact mt Int.ofNat_le.mp (Nat.not_le_of_lt ‹_›)
      exact ⟨mv, sv, kv, Fo (by first | exact rfl | simp only [b3c0, K6, Q1, Q8, U2, V3, V5, V6, V9, W0, Co, Ds, Bv, hd])⟩
    · rename_i hge
      have hd : decide ((z.length : Int) ≥ (y.length : Int)) = true := by simp only [ge_iff_le, decide_eq_true_eq]; exact Int.ofNat_le.mpr (Nat.le_of_not_lt ‹_›)
      split at h
      · rename_i x hx
        split at h
        · rename_i hm
          split at h
          · rename_i z1 hz1
            split at h
            · rename_i rr hr
              unfold Fj at hz1
              split at hz1 <;> cases hz1
              rename_i hall
              have es : (z.length : Int) - (y.length : Int) = ((z.length - y.length : Nat) : Int) := by lia
              obtain ⟨kv', hfor⟩ := for_sub3 (G := G) (F := F) (N := N) (A := A) (L := L) (L2 := some (false, .int alc)) (S := some (false, .int sg)) (List.range y.length) _ rr kv hr
              have hlen : rr.length = z.length := by rw [subLoop_len _ hr]; simp
              obtain ⟨mv', sv', kv'', ih⟩ := while_pr h0 (A := A) (L := L) (alc := alc) (sg := sg) hy n (trim rr) (some (false, .int (x * sg))) (some (false, .int ((z.length - y.length : Nat) : Int))) kv' r k h (by exact Nat.le_of_succ_le_succ ‹_›) (Nat.le_trans (trim_len rr) (by lia))
              refine ⟨mv', sv', kv'', ?_⟩
              rw [← ih]
              refine Hh (by first | exact rfl | simp only [b3c0, K6, Q1, Q8, U2, V3, V5, V6, V9, W0, Co, Ds, Bv, hd]) ?_
              have hcomp := Gr (G := G) (F := F) (σ := [A, some (false, .ilist y), some (true, .ilist z), L, some (false, .int alc), some (false, .int sg), some (false, .int (x * sg)), some (false, .int ((z.length - y.length : Nat) : Int)), kv]) (elt := .bin .mul (.rd 4) (.rd 9)) (z := z) (alc * ·) (fun c hc => by
                have := List.all_eq_true.mp hall c hc
                simp only [List.cons_append, List.nil_append, Q1, Q3, V3, V5, V6, Cq, this, if_true])
              have hl : (z.map AV.int).length ≤ LIM := by simpa using hz
              simp only [b3d0, J0, J1, J2, J3, J4, K0, K7, K8, K9, Q0, Q1, Q3, Q4, U1, U2, U3, V1, V2, V3, V4, V5, V6, V7, V8, V9, Ct, Cq, Bv, Ay, Fu, hx, hm, if_true, es, Bj, hl, hcomp, Fb, isList, Ek _ hy, Bj, map_nat, hfor, freeze, h0]
            · cases h
          · cases h
        · cases h
      · cases h
set_option tactic.hygienic true in
theorem run_posrem (h0 : ∀ a, F 0 [.ilist a] = some (.val (.ilist (trim a)))) (x y r : List Int) (hr : posrem x y = some r) (hN : x.length + 1 ≤ N) :
    ∃ σ', Ah G F N b3.body [some (false, .ilist x), some (false, .ilist y), none, none, none, none, none, none, none] = some (.ret (.ilist r), σ') := by
  unfold posrem at hr
  split at hr
  · cases hr
  · rename_i hlim
    simp only [not_or, Nat.not_lt] at hlim
    split at hr
    · rename_i lc hlc
      obtain ⟨mv', sv', kv', h⟩ := while_pr (G := G) (N := N) h0 (A := some (false, .ilist x)) (L := some (false, .int lc)) hlim.2 _ _ none none none r N hr hN hlim.1
      refine ⟨[some (false, .ilist x), some (false, .ilist y), some (false, .ilist r), some (false, .int lc), some (false, .int lc.natAbs), some (false, .int (if lc < 0 then -1 else 1)), mv', sv', kv'], ?_⟩
      by_cases hneg : lc < 0
      · rw [if_pos hneg] at h ⊢
        simp only [b3, J0, J1, J2, J3, J4, J8, J9, K1, K6, K9, Q0, Q1, Q4, Q8, U2, U3, V3, V4, V5, V6, V7, V8, V9, W0, Co, Dp, Di, Cl, isList, if_true, Ay, Fu, hlc, hneg, decide_true, h, freeze]
      · rw [if_neg hneg] at h ⊢
        simp only [b3, J0, J1, J2, J3, J4, J8, J9, K1, K6, K9, Q0, Q1, Q4, Q8, U2, U3, V3, V4, V5, V6, V7, V8, V9, W0, Co, Dp, Di, Cl, isList, if_true, Ay, Fu, hlc, hneg, decide_false, h, freeze]
    · cases hr
noncomputable def Fi (z : List Int) (g : Int) : Int := z.foldl (fun g c => (Int.gcd g c : Int)) g
theorem for_shrink (h1 : ∀ x y, F 1 [.int x, .int y] = some (.val (.int (Int.gcd x y)))) {A : Option (Bool × AV)} : ∀ (z : List Int) (g : Int) (cv : Option (Bool × AV)), ∃ cv',
    Dy [2] (Ah G F N b4d0) (z.map AV.int) [A, some (false, .int g), cv] = some (.next, [A, some (false, .int (Fi z g)), cv'])
  | [], g, cv => ⟨cv, rfl⟩
  | c :: z, g, cv => by
    obtain ⟨cv', ih⟩ := for_shrink h1 (A := A) z (Int.gcd g c) (some (false, .int c))
    refine ⟨cv', ?_⟩
    rw [List.map_cons, Fi, List.foldl_cons, ← Fi, ← ih]
    refine Fs ?_
    simp only [b4d0, J0, J1, J3, K7, K8, Q0, U1, V4, V5, V6, V7, V8, h1]
theorem for_content (h1 : ∀ x y, F 1 [.int x, .int y] = some (.val (.int (Int.gcd x y)))) {A : Option (Bool × AV)} : ∀ (z : List Int) (g : Int) (cv : Option (Bool × AV)), ∃ cv',
    Dy [2] (Ah G F N b17d0) (z.map AV.int) [A, some (false, .int g), cv] = some (.next, [A, some (false, .int (Fi z g)), cv'])
  | [], g, cv => ⟨cv, rfl⟩
  | c :: z, g, cv => by
    obtain ⟨cv', ih⟩ := for_content h1 (A := A) z (Int.gcd g c) (some (false, .int c))
    refine ⟨cv', ?_⟩
    rw [List.map_cons, Fi, List.foldl_cons, ← Fi, ← ih]
    refine Fs ?_
    simp only [b17d0, J0, J1, J3, K7, K8, Q0, U1, V4, V5, V6, V7, V8, h1]
noncomputable def shrink (z : List Int) : Option (List Int) := if LIM < z.length then none else if Fi z 0 = 0 then some [] else some (z.map (·.fdiv (Fi z 0)))
set_option tactic.hygienic true in
theorem run_shrink (h1 : ∀ x y, F 1 [.int x, .int y] = some (.val (.int (Int.gcd x y)))) (z r : List Int) (hr : shrink z = some r) : ∃ σ', Ah G F N b4.body [some (false, .ilist z), none, none] = some (.ret (.ilist r), σ') := by
  unfold shrink at hr
  split at hr
  · cases hr
  · rename_i hlim
    obtain ⟨cv', h⟩ := for_shrink (G := G) (N := N) h1 (A := some (false, .ilist z)) z 0 none
    refine ⟨[some (false, .ilist z), some (false, .int (Fi z 0)), cv'], ?_⟩
    split at hr
    · rename_i hg
      cases hr
      rw [hg] at h ⊢
      simp only [b4, J1, J3, J8, K0, K1, K6, K7, K9, Q0, Q1, Q8, U6, V3, V4, V5, V6, V7, V8, V9, W0, Co, Dt, Bj, h, eq_int, beq_self_eq_true, List.length_nil, Nat.zero_le, if_true, mkL0]
    · rename_i hg
      cases hr
      have hb : (Fi z 0 == 0) = false := by simpa using hg
      have hcomp := Gr (G := G) (F := F) (σ := [some (false, .ilist z), some (false, .int (Fi z 0)), cv']) (elt := .bin .fdiv (.rd 3) (.rd 1)) (z := z) (·.fdiv (Fi z 0)) (fun c hc => by
        simp only [List.cons_append, List.nil_append, Q1, Q3, V3, V5, V6, Cz, hg, if_false])
      have hl : (z.map AV.int).length ≤ LIM := by simp only [List.length_map]; exact Nat.le_of_not_lt ‹_›
      simp only [b4, J0, J1, J3, J8, K0, K1, K6, K9, Q0, Q1, Q8, V1, V3, V4, V5, V6, V7, V8, V9, W0, Co, Dt, Bj, h, eq_int, hb, hl, if_true, hcomp, Fb]
noncomputable def content (a : List Int) : Int := match a.getLast? with
  | none => 0
  | some l => if l > 0 then Fi a 0 else -Fi a 0
theorem run_content (h1 : ∀ x y, F 1 [.int x, .int y] = some (.val (.int (Int.gcd x y)))) (a : List Int) : ∃ σ', Ah G F N b17.body [some (false, .ilist a), none, none] = some (.ret (.int (content a)), σ') := by
  unfold content
  cases ha : a with
  | nil =>
    refine ⟨[some (false, .ilist []), none, none], ?_⟩
    simp only [b17, J1, J8, K1, K6, K9, Q1, Q5, V3, V5, V9, W0, Co, Cf, List.isEmpty_nil, Bool.not_true, Bool.not_false]
    rfl
  | cons x r =>
    rw [← ha]
    obtain ⟨cv', h⟩ := for_content (G := G) (N := N) h1 (A := some (false, .ilist a)) a 0 none
    have he : a.isEmpty = false := by rw [ha]; rfl
    cases hl : a.getLast? with
    | none => rw [ha] at hl; simp at hl
    | some l =>
      refine ⟨[some (false, .ilist a), some (false, .int (Fi a 0)), cv'], ?_⟩
      by_cases hp : l > 0
      · first | exact rfl | simp only [b17, J0, J1, J3, J8, K0, K1, K6, K9, Q0, Q1, Q4, Q5, Q8, U3, V3, V4, V5, V6, V7, V8, V9, W0, Co, Cf, Dr, he, Bool.not_false, Bool.not_true, Bj, h, Ay, Fu, hl, hp, decide_true, if_true]
      · simp only [b17, J0, J1, J3, J8, K0, K1, K6, K9, Q0, Q1, Q4, Q5, Q8, U3, V3, V4, V5, V6, V7, V8, V9, W0, Co, Cf, Dr, he, Bool.not_false, Bool.not_true, Bj, h, Ay, Fu, hl, hp, decide_false, if_false]
noncomputable def primitive (a : List Int) : Option (List Int) := if a = [] then some [] else if content a = 0 ∨ LIM < a.length then none else some (a.map (·.fdiv (content a)))
set_option tactic.hygienic true in
theorem run_primitive (h17 : ∀ a, F 17 [.ilist a] = some (.val (.int (content a)))) (a r : List Int) (hr : primitive a = some r) : ∃ σ', Ah G F N b18.body [some (false, .ilist a), none] = some (.ret (.ilist r), σ') := by
  unfold primitive at hr
  split at hr
  · rename_i ha
    cases hr; subst ha
    exact ⟨[some (false, .ilist []), none], by simp only [b18, J1, J8, K1, K6, K7, Q1, Q5, U6, V3, V5, V9, W0, Co, Cf, List.isEmpty_nil, Bool.not_true, Bool.not_false, List.length_nil, Nat.zero_le, if_true, mkL0]⟩
  · rename_i ha
    split at hr <;> cases hr
    rename_i hc
    simp only [not_or, Nat.not_lt] at hc
    have he : a.isEmpty = false := by rw [Ey]; simpa using ha
    have hcomp := Gr (G := G) (F := F) (σ := [some (false, .ilist a), some (false, .int (content a))]) (elt := .bin .fdiv (.rd 2) (.rd 1)) (z := a) (·.fdiv (content a)) (fun c _ => by
      simp only [List.cons_append, List.nil_append, Q1, Q3, V3, V5, V6, Cz, hc.1, if_false])
    have hl : (a.map AV.int).length ≤ LIM := by simpa using hc.2
    exact ⟨[some (false, .ilist a), some (false, .int (content a))], by simp only [b18, J0, J1, J3, J8, K1, K6, K7, K8, Q0, Q1, Q5, U1, V1, V3, V4, V5, V7, V8, V9, W0, Co, Cf, he, Bool.not_true, Bool.not_false, h17, Bj, hl, if_true, hcomp, Fb]⟩
end
end Mine
end
section
open PySem
namespace Mine
set_option tactic.hygienic false
set_option autoImplicit false
section
variable {G : Str → Option AV} {F : Nat → List AV → Option Res} {N : Nat}
noncomputable def Jc (x : Int) (b : List Int) (i : Nat) (out : List Int) (j : Nat) : Option (List Int) := match out[i + j]?, b[j]? with
  | some o, some y => if Bd x y then some (out.set (i + j) (o + x * y)) else none
  | _, _ => none
noncomputable def Gh (x : Int) (b : List Int) (i : Nat) : List Nat → List Int → Option (List Int)
  | [], r => some r
  | k :: ks, r => match Jc x b i r k with
    | some r' => Gh x b i ks r'
    | none => none
noncomputable def Fg (a b : List Int) : List Nat → List Int → Option (List Int)
  | [], r => some r
  | i :: is, r => match a[i]? with
    | some x => (match Gh x b i (List.range b.length) r with
      | some r' => Fg a b is r'
      | none => none)
    | none => none
noncomputable def multiply (a b : List Int) : Option (List Int) := if a = [] ∨ b = [] then some [] else if LIM < a.length + b.length then none else
  match Fg a b (List.range a.length) (List.replicate (a.length + b.length - 1) 0) with
  | some r => some (trim r)
  | none => none
set_option tactic.hygienic true in
theorem for_add {A : Option (Bool × AV)} {b : List Int} {x : Int} {i : Nat} : ∀ (ks : List Nat) (r r' : List Int) (kv : Option (Bool × AV)), Gh x b i ks r = some r' → ∃ kv',
    Dy [5] (Ah G F N b13d1) (ks.map fun (i : Nat) => AV.int (i : Int))
      [A, some (false, .ilist b), some (true, .ilist r), some (false, .int (i : Int)), some (false, .int x), kv] = some (.next, [A, some (false, .ilist b), some (true, .ilist r'), some (false, .int (i : Int)), some (false, .int x), kv'])
  | [], r, r', kv, h => by simp only [Gh, Option.some.injEq] at h; subst h; exact ⟨kv, rfl⟩
  | k :: ks, r, r', kv, h => by
    simp only [Gh] at h
    cases q : Jc x b i r k with
    | none => rw [q] at h; cases h
    | some r₁ =>
      rw [q] at h
      obtain ⟨kv', ih⟩ := for_add (A := A) ks r₁ r' (some (false, .int (k : Int))) h
      refine ⟨kv', ?_⟩
      unfold Jc at q
      split at q
      · rename_i o y hx hy
        split at q <;> cases q
        rename_i hm
        have hlt := (List.getElem?_eq_some_iff.mp hx).1
        have e1 : (i : Int) + (k : Int) = ((i + k : Nat) : Int) := by exact (Int.natCast_add _ _).symm
        rw [List.map_cons, ← ih]
        refine Fs ?_
        simp only [b13d1, J0, J1, J6, Q1, Q3, U3, V3, V5, V6, V7, V8, V9, Cy, Cq, Ay, e1, Bh, hx, hy, hm, if_true, Il hlt]
      · cases q
set_option tactic.hygienic true in
theorem for_mul {a b : List Int} (hb : b.length ≤ LIM) : ∀ (is : List Nat) (r r' : List Int) (iv xv jv : Option (Bool × AV)), Fg a b is r = some r' → ∃ iv' xv' jv',
    Dy [3] (Ah G F N b13d0) (is.map fun (i : Nat) => AV.int (i : Int)) [some (false, .ilist a), some (false, .ilist b), some (true, .ilist r), iv, xv, jv] = some (.next, [some (false, .ilist a), some (false, .ilist b), some (true, .ilist r'), iv', xv', jv'])
  | [], r, r', iv, xv, jv, h => by simp only [Fg, Option.some.injEq] at h; subst h; exact ⟨iv, xv, jv, rfl⟩
  | i :: is, r, r', iv, xv, jv, h => by
    simp only [Fg] at h
    split at h
    · rename_i x hx
      split at h
      · rename_i r₁ hr
        obtain ⟨jv', hadd⟩ := for_add (G := G) (F := F) (N := N) (A := some (false, .ilist a)) (List.range b.length) r r₁ jv hr
        obtain ⟨iv', xv', jv'', ih⟩ := for_mul hb is r₁ r' (some (false, .int (i : Int))) (some (false, .int x)) jv' h
        refine ⟨iv', xv', jv'', ?_⟩
        rw [List.map_cons, ← ih]
        refine Fs ?_
        simp only [b13d0, J0, J1, J3, K0, K9, Q1, U2, U3, V2, V3, V5, V6, V7, V8, V9, Bv, Ay, Bh, hx, Ek _ hb, Es, hadd]
      · cases h
    · cases h
set_option tactic.hygienic true in
theorem run_multiply (h0 : ∀ a, F 0 [.ilist a] = some (.val (.ilist (trim a)))) (a b r : List Int) (hr : multiply a b = some r) : ∃ σ', Ah G F N b13.body [some (false, .ilist a), some (false, .ilist b), none, none, none, none] = some (.ret (.ilist r), σ') := by
  unfold multiply at hr
  split at hr
  · rename_i hab
    cases hr
    refine ⟨[some (false, .ilist a), some (false, .ilist b), none, none, none, none], ?_⟩
    cases ha : a with
    | nil => simp only [b13, J1, J8, K1, K6, K7, Q1, Q5, Q7, U6, V3, V5, V9, W0, Co, Cf, List.isEmpty_nil, Bool.not_true, Bool.not_false, List.length_nil, Nat.zero_le, if_true, mkL0]
    | cons x t =>
      have hb : b = [] := by rcases hab with h | h; rw [ha] at h; cases h; exact h
      subst hb
      simp only [b13, J1, J8, K1, K6, K7, Q1, Q5, Q7, U6, V3, V5, V6, V9, W0, Co, Cf, List.isEmpty_cons, List.isEmpty_nil, Bool.not_true, Bool.not_false, List.length_nil, Nat.zero_le, if_true, mkL0]
  · rename_i hab
    simp only [not_or] at hab
    split at hr
    · cases hr
    · rename_i hlim
      split at hr
      · rename_i rr hrr
        cases hr
        have hL : LIM = 1048576 := rfl
        have hea : a.isEmpty = false := by rw [Ey]; simpa using hab.1
        have heb : b.isEmpty = false := by rw [Ey]; simpa using hab.2
        have hla : 0 < a.length := List.length_pos_iff.mpr hab.1
        have hlb : 0 < b.length := List.length_pos_iff.mpr hab.2
        have e1 : (a.length : Int) + (b.length : Int) - 1 = ((a.length + b.length - 1 : Nat) : Int) := by lia
        have hmul : Ab .mul (.ilist [0]) (.int ((a.length + b.length - 1 : Nat) : Int)) = some (.ilist (List.replicate (a.length + b.length - 1) 0)) := by
          simp only [Cc]
          rw [if_pos ⟨by exact Int.natCast_nonneg _, by lia, by simp only [List.length_cons, List.length_nil, Int.toNat_natCast]; lia⟩, Int.toNat_natCast, rep0]
        obtain ⟨iv', xv', jv', h⟩ := for_mul (G := G) (F := F) (N := N) (a := a) (b := b) (by lia) (List.range a.length) _ rr none none none hrr
        refine ⟨[some (false, .ilist a), some (false, .ilist b), some (false, .ilist rr), iv', xv', jv'], ?_⟩
        simp only [b13]
        rw [Ag (σ' := [some (false, .ilist a), some (false, .ilist b), none, none, none, none]) (by first | exact rfl | simp only [J0, J8, K6, Q1, Q5, Q7, V3, V5, V6, V9, W0, Co, Cf, hea, heb, Bool.not_true, Bool.not_false])]
        rw [Ag (σ' := [some (false, .ilist a), some (false, .ilist b), some (true, .ilist (List.replicate (a.length + b.length - 1) 0)), none, none, none]) (by
          rw [J4, Q3, U6, K8, K9, K7, Q3, Q3, U2, U2, Q1, Q1, V3, V3, K9]
          simp only [List.length_cons, List.length_nil, V5, V6, mkL1, Bv]
          rw [if_pos (by with_reducible exact Nat.le_trans (by repeat' first | assumption | apply Nat.add_le_add | exact Nat.le_refl _) (by decide))]
          have e2 : Ab .add (.int (a.length : Int)) (.int (b.length : Int)) = some (.int ((a.length : Int) + b.length)) := rfl
          have e3 : Ab .sub (.int ((a.length : Int) + b.length)) (.int 1) = some (.int ((a.length + b.length - 1 : Nat) : Int)) := by rw [← e1]; rfl
          simp only [e2, e3, hmul, isList, if_true, V7, V8])]
        rw [Ag (σ' := [some (false, .ilist a), some (false, .ilist b), some (true, .ilist rr), iv', xv', jv']) (by first | exact rfl | simp only [K0, K9, Q1, U2, V2, V3, V5, Bv, Ek a.length (by lia), Es, h])]
        simp only [J1, J2, K1, K7, K8, Q0, U1, V4, V5, V6, V7, V8, freeze, h0]
      · cases hr
noncomputable def dl (a : List Int) : List Int := (List.range (a.length - 1)).map fun (i : Nat) => ((i : Int) + 1) * a.getD (i + 1) 0
noncomputable def derivative (a : List Int) : Option (List Int) := if LIM < a.length ∨ !((List.range (a.length - 1)).all fun (i : Nat) => Bd ((i : Int) + 1) (a.getD (i + 1) 0)) then none else some (trim (dl a))
theorem range_one (n : Nat) (h : n ≤ LIM) : (if (True ∨ (1 : Int) = -1) ∧ -(LIM : Int) ≤ 1 ∧ (1 : Int) ≤ LIM ∧ -(LIM : Int) ≤ (n : Int) ∧ (n : Int) ≤ LIM then some (AV.ilist (Ex 1 n 1)) else none) = some (.ilist ((List.range (n - 1)).map fun (i : Nat) => (i : Int) + 1)) := by
  have hL : LIM = 1048576 := rfl
  rw [if_pos ⟨.inl trivial, by decide, by decide, by exact ZF _, by exact Int.ofNat_le.mpr ‹_›⟩]
  unfold Ex Builtin.Range.rangeSize
  simp only [show (1 : Int) > 0 by decide, if_true, Int.ediv_one]
  have : (if (1 : Int) < n then (n : Int) - 1 - 1 + 1 else 0).toNat = n - 1 := by split <;> lia
  rw [this]
  congr 2
  apply List.map_congr_left
  intro i _; lia
set_option tactic.hygienic true in
theorem run_derivative (h0 : ∀ a, F 0 [.ilist a] = some (.val (.ilist (trim a)))) (a r : List Int) (hr : derivative a = some r) : ∃ σ', Ah G F N b14.body [some (false, .ilist a)] = some (.ret (.ilist r), σ') := by
  unfold derivative at hr
  split at hr
  · cases hr
  · rename_i hc
    cases hr
    simp only [not_or, Nat.not_lt, Bool.not_eq_true', Bool.not_eq_false] at hc
    obtain ⟨hl, hm⟩ := hc
    refine ⟨[some (false, .ilist a)], ?_⟩
    have hcomp : Ev (Bb G F (.lit (.bool true))) (Ae G F (.bin .mul (.rd 1) (.idx (.rd 0) (.rd 1)))) 1 [some (false, .ilist a)] (((List.range (a.length - 1)).map fun (i : Nat) => (i : Int) + 1).map AV.int) = some ((dl a).map AV.int) := by
      rw [Gs (fun v => match v with | .int c => .int (c * a.getD c.toNat 0) | v => v)]
      · simp only [dl, List.map_map]
        congr 1
      · intro y _; rfl
      · intro y hy
        obtain ⟨c, hc, rfl⟩ := List.mem_map.mp hy
        obtain ⟨i, hi, rfl⟩ := List.mem_map.mp hc
        have hi' := List.mem_range.mp hi
        have hmi := List.all_eq_true.mp hm i hi
        have e1 : (i : Int) + 1 = ((i + 1 : Nat) : Int) := by exact rfl
        have hx : a[i + 1]? = some (a.getD (i + 1) 0) := by
          rw [List.getElem?_eq_getElem (by lia), List.getD_eq_getElem?_getD, List.getElem?_eq_getElem (by lia)]; rfl
        have e2 : ((i + 1 : Nat) : Int).toNat = i + 1 := by exact rfl
        rw [e1] at hmi ⊢
        simp only [List.cons_append, List.nil_append, Q1, Q3, U3, V3, V5, V6, V9, Cq, Ay, Bh, hx, hmi, if_true, e2]
    have hlen : (((List.range (a.length - 1)).map fun (i : Nat) => (i : Int) + 1).map AV.int).length ≤ LIM := by simp only [List.length_map, List.length_range]; exact Nat.le_trans (Nat.sub_le _ _) ‹_›
    simp only [b14, J1, K1, K7, K8, K9, Q1, U1, U2, V1, V2, V3, V5, V9, Bv, range_one _ hl, Bj, hlen, if_true, hcomp, Fb, h0]
noncomputable def valO (n : Int) : List Int → Int → Option Int
  | [], t => some t
  | c :: r, t => if Bd t n then valO n r (t * n + c) else none
noncomputable def value (a : List Int) (n : Int) : Option Int := valO n a.reverse 0
set_option tactic.hygienic true in
theorem while_value {a : List Int} {n : Int} : ∀ (m : Nat) (t v : Int) (k : Nat), m ≤ a.length → m < k → valO n (a.take m).reverse t = some v →
    Dz (Bb G F b15c0) (Ah G F N b15d0) k [some (false, .ilist a), some (false, .int n), some (false, .int t), some (false, .int ((m : Int) - 1))] = some (.next, [some (false, .ilist a), some (false, .int n), some (false, .int v), some (false, .int (-1))])
  | m, t, v, 0, _, h, _ => by exact absurd ‹_› (Nat.not_lt_zero _)
  | 0, t, v, k + 1, _, _, h => by
    simp only [List.take_zero, List.reverse_nil, valO, Option.some.injEq] at h
    subst h
    refine Fo ?_
    simp only [b15c0, K6, K9, Q1, Q8, V3, V5, V6, V9, W0, Co, Ds]
    rfl
  | m + 1, t, v, k + 1, hm, hk, h => by
    have hx : m < a.length := by exact Nat.lt_of_succ_le ‹_›
    have e0 : (a.take (m + 1)).reverse = a[m] :: (a.take m).reverse := by
      rw [List.take_succ_eq_append_getElem hx]; simp
    rw [e0] at h
    simp only [valO] at h
    split at h
    · rename_i hok
      have ih := while_value m (t * n + a[m]) v k (by exact Nat.le_of_lt ‹_›) (by exact Nat.lt_of_succ_lt_succ ‹_›) h
      have e1 : ((m + 1 : Nat) : Int) - 1 = (m : Int) := by lia
      have hd : decide ((m : Int) ≥ 0) = true := by simp
      rw [← ih, e1]
      refine Hh (by first | exact rfl | simp only [b15c0, J0, J1, J2, J3, J4, J5, J6, J7, J8, J9, K0, K1, K2, K3, K4, K5, K6, K7, K8, K9, Q0, Q1, Q2, Q3, Q4, Q5, Q6, Q7, Q8, Q9, U0, U1, U2, U3, U4, U5, U6, U7, U8, U9, V0, V1, V2, V3, V4, V5, V6, V7, V8, V9, W0, Cm, Co, Cs, Cr, Cf, Cn, Cy, Cu, Dm, Dj, Dl, Dk, Ct, Cq, Cp, Cc, Cg, Cz, Cw, Cv, Dt, Dn, Dp, Dq, Dr, Ds, Da, Db, Dc, Dd, Ci, Ch, Ce, Cd, Bz, Bx, By, Bu, Bq, Br, Bt, Bs, Bp, Bm, Bn, Bo, Do, Cb, Bv, Bw, Ca, Di, Cl, Ck, Cj, De, Df, Dh, hd]) ?_
      simp only [b15d0, J0, J1, J3, K9, Q1, Q3, U3, V3, V5, V6, V7, V8, V9, Cy, Ct, Cq, hok, if_true, Ay, Bh, List.getElem?_eq_getElem hx]
    · cases h
theorem run_value (a : List Int) (n v : Int) (hv : value a n = some v) (hN : a.length < N) : ∃ σ', Ah G F N b15.body [some (false, .ilist a), some (false, .int n), none, none] = some (.ret (.int v), σ') := by
  have h := while_value (G := G) (F := F) (N := N) (a := a) (n := n) a.length 0 v N (Nat.le_refl _) hN (by rw [List.take_length]; exact hv)
  exact ⟨[some (false, .ilist a), some (false, .int n), some (false, .int v), some (false, .int (-1))], by simp only [b15, J1, J3, J9, K1, K9, Q0, Q1, Q3, U2, V3, V4, V5, V6, V7, V8, Ct, Bv, h]⟩
noncomputable def En (a b : List Int) : Option (Option (List Int)) := if b = [] then some none else if a = [] then some (some []) else Je a b
noncomputable def exR : Option (List Int) → Res
  | none => .exc
  | some q => .val (.ilist q)
noncomputable def exV : Option (List Int) → AV
  | none => .none
  | some q => .ilist q
set_option tactic.hygienic true in
theorem run_divide (h2 : ∀ a b r, Je a b = some r → F 2 [.ilist a, .ilist b] = some (.val (exV r))) (a b : List Int) (r : Option (List Int)) (hr : En a b = some r) :
    ∃ o σ', Ah G F N b16.body [some (false, .ilist a), some (false, .ilist b), none] = some (o, σ') ∧ Jd o = some (exR r) := by
  unfold En at hr
  split at hr
  · rename_i hb
    cases hr; subst hb
    exact ⟨.exc, [some (false, .ilist a), some (false, .ilist []), none], by simp only [b16, J1, J8, K2, K6, Q1, Q5, V3, V5, V6, V9, W0, Co, Cf, List.isEmpty_nil, Bool.not_true, Bool.not_false], rfl⟩
  · rename_i hb
    have heb : b.isEmpty = false := by rw [Ey]; simpa using hb
    split at hr
    · rename_i ha
      cases hr; subst ha
      exact ⟨.ret (.ilist []), [some (false, .ilist []), some (false, .ilist b), none], by simp only [b16, J0, J1, J8, K1, K6, K7, Q1, Q5, U6, V3, V5, V6, V9, W0, Co, Cf, heb, List.isEmpty_nil, Bool.not_true, Bool.not_false, List.length_nil, Nat.zero_le, if_true, mkL0], rfl⟩
    · rename_i ha
      have hea : a.isEmpty = false := by rw [Ey]; simpa using ha
      have h2 := h2 a b r hr
      cases r with
      | none => exact ⟨.exc, [some (false, .ilist a), some (false, .ilist b), some (false, .none)], by simp only [b16, J0, J1, J3, J8, K2, K6, K7, K8, K9, Q0, Q1, Q5, Q8, U1, V3, V4, V5, V6, V7, V8, V9, W0, Co, Cf, By, hea, heb, Bool.not_true, Bool.not_false, h2, exV], rfl⟩
      | some q => exact ⟨.ret (.ilist q), [some (false, .ilist a), some (false, .ilist b), some (false, .ilist q)], by simp only [b16, J0, J1, J3, J8, K1, K6, K7, K8, K9, Q0, Q1, Q5, Q8, U1, V3, V4, V5, V6, V7, V8, V9, W0, Co, Cf, Bq, hea, heb, Bool.not_true, Bool.not_false, h2, exV], rfl⟩
noncomputable def Hq : Nat → List Int → List Int → Option (List Int)
  | 0, _, _ => none
  | n + 1, x, y => if y = [] then some x else match posrem x y with
    | some r => (match shrink r with
      | some y' => Hq n y y'
      | none => none)
    | none => none
noncomputable def gcdP (a b : List Int) : Option (List Int) := match primitive a, primitive b with
  | some x, some y => (match Hq (y.length + 2) x y with
    | some z => if z = [] then some [] else (match primitive z with
      | some p => if LIM < p.length then none else Fj (Int.gcd (content a) (content b)) p
      | none => none)
    | none => none)
  | _, _ => none
set_option tactic.hygienic true in
theorem while_gcd (h3 : ∀ x y r, posrem x y = some r → F 3 [.ilist x, .ilist y] = some (.val (.ilist r))) (h4 : ∀ z r, shrink z = some r → F 4 [.ilist z] = some (.val (.ilist r))) {A B Gv P : Option (Bool × AV)} : ∀ (n : Nat) (x y : List Int) (rv : Option (Bool × AV)) (z : List Int) (k : Nat), Hq n x y = some z → n ≤ k → ∃ rv',
    Dz (Bb G F b19c0) (Ah G F N b19d0) k [A, B, Gv, some (false, .ilist x), some (false, .ilist y), rv, P] = some (.next, [A, B, Gv, some (false, .ilist z), some (false, .ilist []), rv', P])
  | 0, x, y, rv, z, k, h, _ => by simp [Hq] at h
  | n + 1, x, y, rv, z, 0, h, hk => by exact absurd ‹_› (Nat.not_succ_le_zero _)
  | n + 1, x, y, rv, z, k + 1, h, hk => by
    simp only [Hq] at h
    split at h
    · rename_i hy
      cases h; subst hy
      exact ⟨rv, Fo (by first | exact rfl | simp only [b19c0, J0, J1, J2, J3, J4, J5, J6, J7, J8, J9, K0, K1, K2, K3, K4, K5, K6, K7, K8, K9, Q0, Q1, Q2, Q3, Q4, Q5, Q6, Q7, Q8, Q9, U0, U1, U2, U3, U4, U5, U6, U7, U8, U9, V0, V1, V2, V3, V4, V5, V6, V7, V8, V9, W0, Cm, Co, Cs, Cr, Cf, Cn, Cy, Cu, Dm, Dj, Dl, Dk, Ct, Cq, Cp, Cc, Cg, Cz, Cw, Cv, Dt, Dn, Dp, Dq, Dr, Ds, Da, Db, Dc, Dd, Ci, Ch, Ce, Cd, Bz, Bx, By, Bu, Bq, Br, Bt, Bs, Bp, Bm, Bn, Bo, Do, Cb, Bv, Bw, Ca, Di, Cl, Ck, Cj, De, Df, Dh, List.isEmpty_nil, Bool.not_true])⟩
    · rename_i hy
      have hey : y.isEmpty = false := by rw [Ey]; simpa using hy
      split at h
      · rename_i r hr
        split at h
        · rename_i y' hy'
          obtain ⟨rv', ih⟩ := while_gcd h3 h4 (A := A) (B := B) (Gv := Gv) (P := P) n y y' (some (false, .ilist r)) z k h (by exact Nat.le_of_succ_le_succ ‹_›)
          refine ⟨rv', ?_⟩
          rw [← ih]
          refine Hh (by first | exact rfl | simp only [b19c0, K6, Q1, V3, V5, V6, W0, Cf, hey, Bool.not_false]) ?_
          simp only [b19d0, J0, J1, J3, K7, K8, Q0, U1, V4, V5, V6, V7, V8, h3 x y r hr, h4 r y' hy']
        · cases h
      · cases h
set_option tactic.hygienic true in
theorem run_gcdP (h1 : ∀ x y, F 1 [.int x, .int y] = some (.val (.int (Int.gcd x y)))) (h3 : ∀ x y r, posrem x y = some r → F 3 [.ilist x, .ilist y] = some (.val (.ilist r))) (h4 : ∀ z r, shrink z = some r → F 4 [.ilist z] = some (.val (.ilist r)))
    (h17 : ∀ a, F 17 [.ilist a] = some (.val (.int (content a)))) (h18 : ∀ a r, primitive a = some r → F 18 [.ilist a] = some (.val (.ilist r))) (a b r : List Int) (hr : gcdP a b = some r) (hN : b.length + 2 ≤ N) :
    ∃ σ', Ah G F N b19.body [some (false, .ilist a), some (false, .ilist b), none, none, none, none, none] = some (.ret (.ilist r), σ') := by
  unfold gcdP at hr
  split at hr
  · rename_i x y hx hy
    split at hr
    · rename_i z hz
      have hyl : y.length ≤ b.length := by
        unfold primitive at hy
        split at hy
        · cases hy; exact Nat.zero_le _
        · split at hy <;> cases hy
          simp
      obtain ⟨rv', h⟩ := while_gcd (G := G) (N := N) h3 h4 (A := some (false, .ilist a)) (B := some (false, .ilist b)) (Gv := some (false, .int (Int.gcd (content a) (content b)))) (P := none) _ x y none z N hz (by lia)
      split at hr
      · rename_i hz0
        cases hr; subst hz0
        refine ⟨[some (false, .ilist a), some (false, .ilist b), some (false, .int (Int.gcd (content a) (content b))), some (false, .ilist []), some (false, .ilist []), rv', none], ?_⟩
        simp only [b19, J1, J3, J8, J9, K1, K6, K7, K8, Q0, Q1, Q5, U1, U6, V3, V4, V5, V6, V7, V8, V9, W0, Co, Cf, h17, h1, h18 a x hx, h18 b y hy, h, List.isEmpty_nil, Bool.not_true, Bool.not_false, List.length_nil, Nat.zero_le, if_true, mkL0]
      · rename_i hz0
        have hez : z.isEmpty = false := by rw [Ey]; simpa using hz0
        split at hr
        · rename_i p hp
          split at hr
          · cases hr
          · rename_i hlp
            unfold Fj at hr
            split at hr <;> cases hr
            rename_i hall
            refine ⟨[some (false, .ilist a), some (false, .ilist b), some (false, .int (Int.gcd (content a) (content b))), some (false, .ilist z), some (false, .ilist []), rv', some (false, .ilist p)], ?_⟩
            have hcomp := Gr (G := G) (F := F) (σ := [some (false, .ilist a), some (false, .ilist b), some (false, .int (Int.gcd (content a) (content b))), some (false, .ilist z), some (false, .ilist []), rv', some (false, .ilist p)]) (elt := .bin .mul (.rd 2) (.rd 7)) (z := p) ((Int.gcd (content a) (content b) : Int) * ·) (fun c hc => by
              have := List.all_eq_true.mp hall c hc
              simp only [List.cons_append, List.nil_append, Q1, Q3, V3, V5, V6, Cq, this, if_true])
            have hl : (p.map AV.int).length ≤ LIM := by simp only [List.length_map]; exact Nat.le_of_not_lt ‹_›
            simp only [b19, J0, J1, J3, J8, J9, K1, K6, K7, K8, Q0, Q1, Q5, U1, V1, V3, V4, V5, V6, V7, V8, V9, W0, Co, Cf, h17, h1, h18 a x hx, h18 b y hy, h, hez, Bool.not_true, Bool.not_false, h18 z p hp, Bj, hl, if_true, hcomp, Fb]
        · cases hr
    · cases hr
  · cases hr
end
end Mine
end
section
open PySem
namespace Mine
set_option tactic.hygienic false
set_option autoImplicit false
section
variable {G : Str → Option AV} {F : Nat → List AV → Option Res} {N : Nat}
noncomputable def encP (p : List Int × Int) : AV := .tup [.ilist p.1, .int p.2]
noncomputable def Ak (l : List (List Int × Int)) : AV := match l with
  | [] => .ilist []
  | p :: r => .list ((p :: r).map encP)
theorem append_out (l : List (List Int × Int)) (p : List Int × Int) (h : l.length < LIM) : Gg (Ak l) (.tup [.ilist p.1, .int p.2]) = some (Ak (l ++ [p])) := by
  cases l with
  | nil => simp only [Ak, Gg, List.length_nil]; rw [if_pos (by decide)]; rfl
  | cons q r =>
    simp only [Ak, Gg, List.length_map]
    rw [if_pos h]
    simp only [List.cons_append, List.map_cons, List.map_append, List.map_nil]; rfl
noncomputable def sfLoop : Nat → List Int → List Int → Int → List (List Int × Int) → Option (List (List Int × Int))
  | 0, _, _, _, _ => none
  | n + 1, w, g, i, out => if ¬ 1 < w.length then some out else match gcdP w g with
    | some d => (match primitive d with
      | some y => (match En w y, En g y with
        | some (some z), some (some g') => if LIM ≤ out.length then none else sfLoop n y g' (i + 1) (if 1 < z.length then out ++ [(z, i)] else out)
        | _, _ => none)
      | none => none)
    | none => none
noncomputable def sfParts (b : List Int) : Option (List (List Int × Int)) := if b.length < 2 then some [] else match derivative b with
  | some b' => (match gcdP b b' with
    | some d => (match primitive d with
      | some g => (match En b g with
        | some (some w) => sfLoop (b.length + 2) w g 1 []
        | _ => none)
      | none => none)
    | none => none)
  | none => none
noncomputable def sqf (a : List Int) : Option (Int × List (List Int × Int)) := match primitive a with
  | some b => (match sfParts b with
    | some l => some (content a, l)
    | none => none)
  | none => none
set_option tactic.hygienic true in
theorem while_sf (h16 : ∀ a b q, En a b = some (some q) → F 16 [.ilist a, .ilist b] = some (.val (.ilist q))) (h18 : ∀ a r, primitive a = some r → F 18 [.ilist a] = some (.val (.ilist r))) (h19 : ∀ a b r, gcdP a b = some r → F 19 [.ilist a, .ilist b] = some (.val (.ilist r))) {A C B : Option (Bool × AV)} :
    ∀ (n : Nat) (w g : List Int) (i : Int) (out : List (List Int × Int)) (yv zv : Option (Bool × AV)) (r : List (List Int × Int)) (k : Nat), sfLoop n w g i out = some r → n ≤ k → ∃ w' g' i' yv' zv',
    Dz (Bb G F b20c0) (Ah G F N b20d0) k [A, C, B, some (false, .ilist g), some (false, .ilist w), some (false, .int i), some (true, Ak out), yv, zv] = some (.next, [A, C, B, g', w', i', some (true, Ak r), yv', zv'])
  | 0, w, g, i, out, yv, zv, r, k, h, _ => by simp [sfLoop] at h
  | n + 1, w, g, i, out, yv, zv, r, 0, h, hk => by exact absurd ‹_› (Nat.not_succ_le_zero _)
  | n + 1, w, g, i, out, yv, zv, r, k + 1, h, hk => by
    simp only [sfLoop] at h
    split at h
    · rename_i hw
      cases h
      have hd : decide ((w.length : Int) > 1) = false := by simp only [gt_iff_lt, decide_eq_false_iff_not]; exact mt Int.ofNat_lt.mp ‹_›
      exact ⟨_, _, _, _, _, Fo (by first | exact rfl | simp only [b20c0, K6, K9, Q1, Q8, U2, V3, V5, V6, V9, W0, Co, Dr, Bv, hd])⟩
    · rename_i hw
      have hd : decide ((w.length : Int) > 1) = true := by simp only [gt_iff_lt, decide_eq_true_eq]; lia
      split at h
      · rename_i d hgd
        split at h
        · rename_i y hy
          split at h
          · rename_i z g' hz hg'
            split at h
            · cases h
            · rename_i hlo
              obtain ⟨w', g'', i', yv', zv', ih⟩ := while_sf h16 h18 h19 (A := A) (C := C) (B := B) n y g' (i + 1) _ (some (false, .ilist y)) (some (false, .ilist z)) r k h (by exact Nat.le_of_succ_le_succ ‹_›)
              refine ⟨w', g'', i', yv', zv', ?_⟩
              rw [← ih]
              refine Hh (by first | exact rfl | simp only [b20c0, K6, K9, Q1, Q8, U2, V3, V5, V6, V9, W0, Co, Dr, Bv, hd]) ?_
              by_cases hzl : 1 < z.length
              · have hdz : decide ((z.length : Int) > 1) = true := by simp only [gt_iff_lt, decide_eq_true_eq]; exact ZS ‹_›
                have hap := append_out out (z, i) (by exact Nat.lt_of_not_le ‹_›)
                simp only [b20d0, J0, J1, J3, J7, J8, K6, K7, K8, K9, Q0, Q1, Q3, Q8, U1, U2, U7, V3, V4, V5, V6, V7, V8, V9, W0, Co, Cy, Dr, Bv, h19 w g d hgd, h18 d y hy, h16 w y z hz, hdz, List.length_cons, List.length_nil, hap, h16 g y g' hg', hzl, lim2, if_true]
              · have hdz : decide ((z.length : Int) > 1) = false := by simp only [gt_iff_lt, decide_eq_false_iff_not]; exact mt Int.ofNat_lt.mp ‹_›
                simp only [b20d0, J0, J1, J3, J8, K6, K7, K8, K9, Q0, Q1, Q3, Q8, U1, U2, V3, V4, V5, V6, V7, V8, V9, W0, Co, Cy, Dr, Bv, h19 w g d hgd, h18 d y hy, h16 w y z hz, hdz, h16 g y g' hg', hzl, if_false]
          · cases h
        · cases h
      · cases h
set_option tactic.hygienic true in
theorem run_sqf (h14 : ∀ a r, derivative a = some r → F 14 [.ilist a] = some (.val (.ilist r))) (h16 : ∀ a b q, En a b = some (some q) → F 16 [.ilist a, .ilist b] = some (.val (.ilist q))) (h17 : ∀ a, F 17 [.ilist a] = some (.val (.int (content a))))
    (h18 : ∀ a r, primitive a = some r → F 18 [.ilist a] = some (.val (.ilist r))) (h19 : ∀ a b r, gcdP a b = some r → F 19 [.ilist a, .ilist b] = some (.val (.ilist r))) (a : List Int) (r : Int × List (List Int × Int)) (hr : sqf a = some r) (hN : a.length + 2 ≤ N) :
    ∃ σ', Ah G F N b20.body [some (false, .ilist a), none, none, none, none, none, none, none, none] = some (.ret (.tup [.int r.1, Ak r.2]), σ') := by
  unfold sqf at hr
  split at hr
  · rename_i b hb
    split at hr
    · rename_i l hl
      cases hr
      have hbl : b.length ≤ a.length := by
        unfold primitive at hb
        split at hb
        · cases hb; exact Nat.zero_le _
        · split at hb <;> cases hb
          simp
      unfold sfParts at hl
      split at hl
      · rename_i hb2
        cases hl
        have hd : decide ((b.length : Int) < 2) = true := by simp only [decide_eq_true_eq]; lia
        refine ⟨[some (false, .ilist a), some (false, .int (content a)), some (false, .ilist b), none, none, none, none, none, none], ?_⟩
        simp only [b20, J1, J3, J8, K1, K6, K7, K8, K9, Q0, Q1, Q8, U1, U2, U6, U7, V3, V4, V5, V6, V7, V8, V9, W0, Co, Dp, Bv, h17, h18 a b hb, hd, List.length_cons, List.length_nil, Nat.zero_le, if_true, mkL0, lim2]
        rfl
      · rename_i hb2
        have hd : decide ((b.length : Int) < 2) = false := by simp only [decide_eq_false_iff_not]; exact mt Int.ofNat_lt.mp ‹_›
        split at hl
        · rename_i b' hb'
          split at hl
          · rename_i dd hdd
            split at hl
            · rename_i g hg
              split at hl
              · rename_i w hw
                obtain ⟨w', g', i', yv', zv', h⟩ := while_sf (G := G) (N := N) h16 h18 h19 (A := some (false, .ilist a)) (C := some (false, .int (content a))) (B := some (false, .ilist b)) _ w g 1 [] none none l N hl (by lia)
                have h' : Dz (Bb G F b20c0) (Ah G F N b20d0) N [some (false, .ilist a), some (false, .int (content a)), some (false, .ilist b), some (false, .ilist g), some (false, .ilist w), some (false, .int 1), some (true, .ilist []), none, none] = some (.next, [some (false, .ilist a), some (false, .int (content a)), some (false, .ilist b), g', w', i', some (true, Ak l), yv', zv']) := h
                refine ⟨[some (false, .ilist a), some (false, .int (content a)), some (false, .ilist b), g', w', i', some (false, Ak l), yv', zv'], ?_⟩
                simp only [b20, J0, J1, J2, J3, J5, J8, J9, K1, K6, K7, K8, K9, Q0, Q1, Q8, U1, U2, U7, V3, V4, V5, V6, V7, V8, V9, W0, Co, Dp, Bv, h17, h18 a b hb, hd, h14 b b' hb', h19 b b' dd hdd, h18 dd g hg, h16 b g w hw, List.length_nil, Nat.zero_le, if_true, mkL0, h', freeze, List.length_cons, lim2]
              · cases hl
            · cases hl
          · cases hl
        · cases hl
    · cases hr
  · cases hr
noncomputable def Seq (v : AV) (g : List Int) : Prop := v = .ilist g ∨ v = .tup (g.map .int)
theorem Seq.len {v : AV} {g : List Int} (h : Seq v g) : Af .len v = some (.int g.length) := by
  rcases h with rfl | rfl <;> simp [Bv, Ca]
theorem Seq.idx {v : AV} {g : List Int} (h : Seq v g) {k : Nat} {x : Int} (hx : g[k]? = some x) : Ay v (.int (k : Int)) = some (.int x) := by
  rcases h with rfl | rfl
  · simp only [Ay, Bh, hx, V9]
  · simp only [Ay, Bh, List.getElem?_map, hx, V9]
noncomputable def Kt (f g : List Int) (m : Nat) : Int := sumI (((List.range f.length).filter fun n => decide (n ≤ m) && decide (m - n < g.length)).map fun n => f.getD n 0 * g.getD (m - n) 0)
noncomputable def conv (f g : List Int) : List Int := (List.range (f.length + g.length - 1)).map (Kt f g)
noncomputable def Hz (f g : List Int) : Option (List Int) := if f = [] ∨ g = [] ∨ LIM ≤ f.length + g.length ∨ !(f.all fun x => g.all (Bd x)) then none else some (conv f g)
theorem getD_some {l : List Int} {n : Nat} (h : n < l.length) : l[n]? = some (l.getD n 0) := by
  rw [List.getD_eq_getElem?_getD, List.getElem?_eq_getElem h]; rfl
theorem times_at {fv gv : AV} {f g : List Int} (hf : fv = .ilist f) (hg : Seq gv g) (hm : ∀ x ∈ f, ∀ y ∈ g, Bd x y = true) (m : Nat) {out : Option (Bool × AV)} :
    Ev (Bb G F (.chain .le .lt (.lit (.int 0)) (.bin .sub (.rd 3) (.rd 4)) (.f1 .len (.rd 1)))) (Ae G F (.bin .mul (.idx (.rd 0) (.rd 4)) (.idx (.rd 1) (.bin .sub (.rd 3) (.rd 4))))) 1 [some (false, fv), some (false, gv), out, some (false, .int (m : Int))] ((List.range f.length).map fun (i : Nat) => AV.int (i : Int)) =
      some ((((List.range f.length).filter fun n => decide (n ≤ m) && decide (m - n < g.length)).map fun n => f.getD n 0 * g.getD (m - n) 0).map AV.int) := by
  subst hf
  rw [Ii (fun v => match v with | .int n => decide (n.toNat ≤ m) && decide (m - n.toNat < g.length) | _ => false) (fun v => match v with | .int n => .int (f.getD n.toNat 0 * g.getD (m - n.toNat) 0) | v => v)]
  · rw [List.filter_map, List.map_map, List.map_map]
    congr 1
  · intro y hy
    obtain ⟨n, hn, rfl⟩ := List.mem_map.mp hy
    have hlen := hg.len
    by_cases h1 : n ≤ m
    · have e1 : (m : Int) - (n : Int) = ((m - n : Nat) : Int) := by lia
      have hd : decide ((0 : Int) ≤ ((m - n : Nat) : Int)) = true := by simp
      have hd2 : decide ((((m - n : Nat) : Int)) < (g.length : Int)) = decide (m - n < g.length) := by
        by_cases h2 : m - n < g.length
        · rw [decide_eq_true h2, decide_eq_true (by exact Int.ofNat_lt.mpr ‹_›)]
        · rw [decide_eq_false h2, decide_eq_false (by exact mt Int.ofNat_lt.mp ‹_›)]
      simp only [K6, Q9, List.cons_append, List.nil_append, K9, Q3, Q1, U2, V3, V5, V6, Ct, Dp, Dq, e1, hd, hlen, hd2, V9, W0, Co, Int.toNat_natCast, h1, decide_true, Bool.true_and]
    · have hd : decide ((0 : Int) ≤ (m : Int) - (n : Int)) = false := by simp only [decide_eq_false_iff_not]; lia
      simp only [K6, Q9, List.cons_append, List.nil_append, K9, Q3, Q1, V3, V5, V6, Ct, Dq, hd, W0, Co, Int.toNat_natCast, h1, decide_false, Bool.false_and]
  · intro y hy hp
    obtain ⟨n, hn, rfl⟩ := List.mem_map.mp hy
    have hn' := List.mem_range.mp hn
    simp only [Int.toNat_natCast, Bool.and_eq_true, decide_eq_true_eq] at hp
    have e1 : (m : Int) - (n : Int) = ((m - n : Nat) : Int) := by lia
    have hx := getD_some hn'
    have hy' := getD_some hp.2
    have hmm := hm _ (List.mem_of_getElem? hx) _ (List.mem_of_getElem? hy')
    have hi := hg.idx hy'
    simp only [List.cons_append, List.nil_append, Q3, U3, Q1, V3, V5, V6, Ct, e1, hi, Int.toNat_natCast]
    simp only [Ay, Bh, hx, V9, Cq, hmm, if_true]
theorem for_times {gv : AV} {f g : List Int} (hg : Seq gv g) (hl : f.length ≤ LIM) (hm : ∀ x ∈ f, ∀ y ∈ g, Bd x y = true) : ∀ (ms : List Nat) (out : List Int) (mv : Option (Bool × AV)), out.length + ms.length ≤ LIM → ∃ mv',
    Dy [3] (Ah G F N b21d0) (ms.map fun (i : Nat) => AV.int (i : Int)) [some (false, .ilist f), some (false, gv), some (true, .ilist out), mv] = some (.next, [some (false, .ilist f), some (false, gv), some (true, .ilist (out ++ ms.map (Kt f g))), mv'])
  | [], out, mv, h => ⟨mv, by simp [f_nil]⟩
  | m :: ms, out, mv, h => by
    obtain ⟨mv', ih⟩ := for_times hg hl hm ms (out ++ [Kt f g m]) (some (false, .int (m : Int))) (by simp only [List.length_append, List.length_cons, List.length_nil] at h ⊢; exact ZW ‹_›)
    refine ⟨mv', ?_⟩
    have e0 : out ++ (m :: ms).map (Kt f g) = (out ++ [Kt f g m]) ++ ms.map (Kt f g) := by simp
    rw [List.map_cons, e0, ← ih]
    refine Fs ?_
    have hc := times_at (G := G) (F := F) (f := f) rfl hg hm m (out := some (true, .ilist out))
    have hlr : ((List.range f.length).map fun (i : Nat) => AV.int (i : Int)).length ≤ LIM := by simpa using hl
    have hlo : out.length < LIM := by simp only [List.length_cons] at h; exact ZV ‹_›
    simp only [b21d0, J0, J1, J7, K9, Q1, U2, V1, V2, V3, V5, V6, V7, V8, V9, Bv, De, Ek _ hl, Es, hlr, if_true, hc, Fb, Gg, hlo]
    rfl
set_option tactic.hygienic true in
theorem run_times {gv : AV} {f g r : List Int} (hg : Seq gv g) (hr : Hz f g = some r) : ∃ σ', Ah G F N b21.body [some (false, .ilist f), some (false, gv), none, none] = some (.ret (.ilist r), σ') := by
  unfold Hz at hr
  split at hr
  · cases hr
  · rename_i hc
    cases hr
    simp only [not_or, Nat.not_le, Bool.not_eq_true', Bool.not_eq_false] at hc
    obtain ⟨hf0, hg0, hl, hall⟩ := hc
    have hm : ∀ x ∈ f, ∀ y ∈ g, Bd x y = true := fun x hx y hy => List.all_eq_true.mp (List.all_eq_true.mp hall x hx) y hy
    have hlf := List.length_pos_iff.mpr hf0
    have hlg := List.length_pos_iff.mpr hg0
    obtain ⟨mv', h⟩ := for_times (G := G) (F := F) (N := N) hg (by lia) hm (List.range (f.length + g.length - 1)) [] none (by simp only [List.length_nil, List.length_range]; lia)
    have e1 : (f.length : Int) + (g.length : Int) - 1 = ((f.length + g.length - 1 : Nat) : Int) := by lia
    have hlen := hg.len
    refine ⟨[some (false, .ilist f), some (false, gv), some (false, .ilist (conv f g)), mv'], ?_⟩
    simp only [b21]
    rw [Ag (σ' := [some (false, .ilist f), some (false, gv), some (true, .ilist []), none]) (by first | exact rfl | simp only [J0, J1, J2, J3, J4, J5, J6, J7, J8, J9, K0, K1, K2, K3, K4, K5, K6, K7, K8, K9, Q0, Q1, Q2, Q3, Q4, Q5, Q6, Q7, Q8, Q9, U0, U1, U2, U3, U4, U5, U6, U7, U8, U9, V0, V1, V2, V3, V4, V5, V6, V7, V8, V9, W0, Cm, Co, Cs, Cr, Cf, Cn, Cy, Cu, Dm, Dj, Dl, Dk, Ct, Cq, Cp, Cc, Cg, Cz, Cw, Cv, Dt, Dn, Dp, Dq, Dr, Ds, Da, Db, Dc, Dd, Ci, Ch, Ce, Cd, Bz, Bx, By, Bu, Bq, Br, Bt, Bs, Bp, Bm, Bn, Bo, Do, Cb, Bv, Bw, Ca, Di, Cl, Ck, Cj, De, Df, Dh, List.length_nil, Nat.zero_le, if_true, mkL0])]
    rw [Ag (σ' := [some (false, .ilist f), some (false, gv), some (true, .ilist (conv f g)), mv']) (by
      rw [K0, V2, K9, K9, Q3, Q3, U2, U2, Q1, Q1, V3, V3, K9]
      have hlf' : Af .len (.ilist f) = some (.int f.length) := rfl
      simp only [V5, V6, hlen, hlf', Cy, Ct, e1, Ek (f.length + g.length - 1) (by lia), Es, h]
      rfl)]
    simp only [J1, J2, K1, Q0, V4, V5, V6, V7, V8, freeze]
noncomputable def atO (f : List Int) (x : Int) : Option Int := if LIM < f.length ∨ !((List.range f.length).all fun n => decide ((Builtin.Int.intBits x : Int) * (n : Int) ≤ 2 ^ 27) && Bd (f.getD n 0) (x ^ n)) then none else some (sumI ((List.range f.length).map fun n => f.getD n 0 * x ^ n))
set_option tactic.hygienic true in
theorem run_at {fv : AV} {f : List Int} {x v : Int} (hf : Seq fv f) (hv : atO f x = some v) : ∃ σ', Ah G F N b22.body [some (false, fv), some (false, .int x)] = some (.ret (.int v), σ') := by
  unfold atO at hv
  split at hv
  · cases hv
  · rename_i hc
    cases hv
    simp only [not_or, Nat.not_lt, Bool.not_eq_true', Bool.not_eq_false] at hc
    obtain ⟨hl, hall⟩ := hc
    refine ⟨[some (false, fv), some (false, .int x)], ?_⟩
    have hlen := hf.len
    have hcomp : Ev (Bb G F (.lit (.bool true))) (Ae G F (.bin .mul (.idx (.rd 0) (.rd 2)) (.bin .pow (.rd 1) (.rd 2)))) 1 [some (false, fv), some (false, .int x)] ((List.range f.length).map fun (i : Nat) => AV.int (i : Int)) =
        some (((List.range f.length).map fun n => f.getD n 0 * x ^ n).map AV.int) := by
      rw [Gs (fun v => match v with | .int n => .int (f.getD n.toNat 0 * x ^ n.toNat) | v => v)]
      · rw [List.map_map, List.map_map]; congr 1
      · intro y _; rfl
      · intro y hy
        obtain ⟨n, hn, rfl⟩ := List.mem_map.mp hy
        have hn' := List.mem_range.mp hn
        have ha := List.all_eq_true.mp hall n hn
        simp only [Bool.and_eq_true, decide_eq_true_eq] at ha
        have hi := hf.idx (getD_some hn')
        simp only [List.cons_append, List.nil_append, Q3, U3, Q1, V3, V5, V6, Cv, hi, Int.toNat_natCast]
        rw [if_pos ⟨by exact Int.natCast_nonneg _, ha.1⟩]
        simp only [Cq, ha.2, if_true]
    have hlr : ((List.range f.length).map fun (i : Nat) => AV.int (i : Int)).length ≤ LIM := by simpa using hl
    simp only [b22]
    rw [Kj]
    rw [K1, U2, V1, V2, K9, K9, U2, Q1, V3]
    have hs : ∀ l, Af .sum (.ilist l) = some (.int (sumI l)) := fun _ => rfl
    simp only [V5, hlen, Ek _ hl, Es, hlr, if_true, hcomp, V9, Fb, hs]
end
end Mine
end
section
open PySem
namespace Mine
set_option tactic.hygienic false
set_option autoImplicit false
noncomputable def Am (c : Nat) : Bool := decide (48 ≤ c) && decide (c ≤ 57)
noncomputable def isSp (c : Nat) : Bool := c == 32
noncomputable def numF (l : List Nat) (n : Int) : Int := l.foldl (fun (n : Int) (c : Nat) => n * 10 + ((c : Int) - 48)) n
theorem mulOk_right {x y : Int} (h : Builtin.Int.intBits y ≤ 64) : Bd x y = true := by
  unfold Bd
  have : decide (Builtin.Int.intBits y > shortFactorBits) = false := by
    simp only [gt_iff_lt, decide_eq_false_iff_not, Nat.not_lt]; exact h
  rw [this]; simp
theorem Ix {x y : Int} (h : Builtin.Int.intBits x ≤ 64) : Bd x y = true := by
  unfold Bd
  have : decide (Builtin.Int.intBits x > shortFactorBits) = false := by
    simp only [gt_iff_lt, decide_eq_false_iff_not, Nat.not_lt]; exact h
  rw [this]; simp
theorem Iq {t : List Nat} {i : Nat} {c : Nat} {r : List Nat} (h : t.drop i = c :: r) : i < t.length ∧ t[i]? = some c ∧ t.drop (i + 1) = r := by
  have hi : i < t.length := by
    rcases Nat.lt_or_ge i t.length with h1 | h1
    · exact h1
    · rw [List.drop_eq_nil_of_le h1] at h; cases h
  rw [List.drop_eq_getElem_cons hi] at h
  injection h with h1 h2
  exact ⟨hi, by rw [List.getElem?_eq_getElem hi, h1], h2⟩
theorem drop_nil {t : List Nat} {i : Nat} (h : t.drop i = []) : t.length ≤ i := by
  rcases Nat.lt_or_ge i t.length with h1 | h1
  · rw [List.drop_eq_getElem_cons h1] at h; cases h
  · exact h1
section
variable {G : Str → Option AV} {F : Nat → List AV → Option Res} {N : Nat}
theorem run_isdig (c : Nat) : ∃ σ', Ah G F N b6.body [some (false, .str [c])] = some (.ret (.bool (Am c)), σ') := by
  refine ⟨[some (false, .str [c])], ?_⟩
  have e1 : (!Fy [c] [48]) = decide (48 ≤ c) := by
    unfold Fy
    by_cases h : c < 48
    · rw [if_pos h]; simp; assumption
    · rw [if_neg h]
      by_cases h2 : 48 < c
      · rw [if_pos h2]; simp; exact Nat.le_of_lt ‹_›
      · rw [if_neg h2]; simp [Fy]; exact Nat.le_of_not_lt ‹_›
  have e2 : (!Fy [57] [c]) = decide (c ≤ 57) := by
    unfold Fy
    by_cases h : 57 < c
    · rw [if_pos h]; simp; assumption
    · rw [if_neg h]
      by_cases h2 : c < 57
      · rw [if_pos h2]; simp; exact Nat.le_of_lt ‹_›
      · rw [if_neg h2]; simp [Fy]; exact Nat.le_of_not_lt ‹_›
  by_cases h : 48 ≤ c
  · first | exact rfl | simp only [b6, J1, K1, K9, Q1, Q6, Q8, V3, V5, V9, Co, Db, e1, e2, h, decide_true, Am, Bool.true_and]
  · first | exact rfl | simp only [b6, J1, K1, K9, Q1, Q6, Q8, V3, V5, V9, Co, Db, e1, h, decide_false, Am, Bool.false_and]
theorem Fp {t : List Nat} {i c : Nat} (h : t[i]? = some c) : Ay (.str t) (.int (i : Int)) = some (.str [c]) := by
  simp only [Ay, Bh, h, V9]
theorem while_spaces {t : List Nat} : ∀ (s : List Nat) (i k : Nat), t.drop i = s → i ≤ t.length → s.length < k →
    Dz (Bb G F b7c0) (Ah G F N b7d0) k [some (false, .str t), some (false, .int (i : Int))] = some (.next, [some (false, .str t), some (false, .int ((i + (s.takeWhile isSp).length : Nat) : Int))])
  | s, i, 0, _, _, h => by exact absurd ‹_› (Nat.not_lt_zero _)
  | [], i, k + 1, hs, hi, _ => by
    have := drop_nil hs
    have hd : decide ((i : Int) < (t.length : Int)) = false := by simp only [decide_eq_false_iff_not]; exact mt Int.ofNat_lt.mp (Nat.not_lt_of_le ‹_›)
    exact Fo (by first | exact rfl | simp only [b7c0, K6, Q1, Q6, Q8, U2, V3, V5, V6, V9, W0, Co, Dp, Cb, hd])
  | c :: r, i, k + 1, hs, hi, hk => by
    obtain ⟨h1, h2, h3⟩ := Iq hs
    have hd : decide ((i : Int) < (t.length : Int)) = true := by simp only [decide_eq_true_eq]; exact Int.ofNat_lt.mpr ‹_›
    by_cases hc : c = 32
    · subst hc
      have ih := while_spaces r (i + 1) k h3 h1 (by simp only [List.length_cons] at hk; exact Nat.lt_of_succ_lt_succ ‹_›)
      have e0 : i + (List.takeWhile isSp (32 :: r)).length = i + 1 + (r.takeWhile isSp).length := by
        simp only [List.takeWhile_cons, isSp, beq_self_eq_true, if_true, List.length_cons]; lia
      rw [e0, ← ih]
      have e1 : (i : Int) + 1 = ((i + 1 : Nat) : Int) := by exact rfl
      refine Hh (by first | exact rfl | simp only [b7c0, K6, K9, Q1, Q6, Q8, U2, U3, V3, V5, V6, V9, W0, Co, Dt, Dp, Cb, hd, Fp h2, eq_str, beq_self_eq_true]) (by first | exact rfl | simp only [b7d0, J0, J1, J2, J3, J4, J5, J6, J7, J8, J9, K0, K1, K2, K3, K4, K5, K6, K7, K8, K9, Q0, Q1, Q2, Q3, Q4, Q5, Q6, Q7, Q8, Q9, U0, U1, U2, U3, U4, U5, U6, U7, U8, U9, V0, V1, V2, V3, V4, V5, V6, V7, V8, V9, W0, Cm, Co, Cs, Cr, Cf, Cn, Cy, Cu, Dm, Dj, Dl, Dk, Ct, Cq, Cp, Cc, Cg, Cz, Cw, Cv, Dt, Dn, Dp, Dq, Dr, Ds, Da, Db, Dc, Dd, Ci, Ch, Ce, Cd, Bz, Bx, By, Bu, Bq, Br, Bt, Bs, Bp, Bm, Bn, Bo, Do, Cb, Bv, Bw, Ca, Di, Cl, Ck, Cj, De, Df, Dh, e1])
    · have hb : ([c] == [32]) = false := by simpa using hc
      have e0 : (List.takeWhile isSp (c :: r)).length = 0 := by
        have : isSp c = false := by unfold isSp; simpa using hc
        simp only [List.takeWhile_cons, this, Bool.false_eq_true, if_false, List.length_nil]
      rw [e0]
      exact Fo (by first | exact rfl | simp only [b7c0, K6, K9, Q1, Q6, Q8, U2, U3, V3, V5, V6, V9, W0, Co, Dt, Dp, Cb, hd, Fp h2, eq_str, hb])
theorem run_spaces (t : List Nat) (i : Nat) (hi : i ≤ t.length) (hN : t.length < N) : ∃ σ', Ah G F N b7.body [some (false, .str t), some (false, .int (i : Int))] = some (.ret (.int ((i + ((t.drop i).takeWhile isSp).length : Nat) : Int)), σ') := by
  have h := while_spaces (G := G) (F := F) (N := N) (t := t) (t.drop i) i N rfl hi (by rw [List.length_drop]; lia)
  exact ⟨[some (false, .str t), some (false, .int ((i + ((t.drop i).takeWhile isSp).length : Nat) : Int))], by simp only [b7, J1, J9, K1, Q0, V4, V5, V6, h]⟩
theorem while_digits (h6 : ∀ c, F 6 [.str [c]] = some (.val (.bool (Am c)))) {t : List Nat} : ∀ (s : List Nat) (i k : Nat), t.drop i = s → i ≤ t.length → s.length < k →
    Dz (Bb G F b8c0) (Ah G F N b8d0) k [some (false, .str t), some (false, .int (i : Int))] = some (.next, [some (false, .str t), some (false, .int ((i + (s.takeWhile Am).length : Nat) : Int))])
  | s, i, 0, _, _, h => by exact absurd ‹_› (Nat.not_lt_zero _)
  | [], i, k + 1, hs, hi, _ => by
    have := drop_nil hs
    have hd : decide ((i : Int) < (t.length : Int)) = false := by simp only [decide_eq_false_iff_not]; exact mt Int.ofNat_lt.mp (Nat.not_lt_of_le ‹_›)
    exact Fo (by first | exact rfl | simp only [b8c0, K6, Q1, Q6, Q8, U2, V3, V5, V6, V9, W0, Co, Dp, Cb, hd])
  | c :: r, i, k + 1, hs, hi, hk => by
    obtain ⟨h1, h2, h3⟩ := Iq hs
    have hd : decide ((i : Int) < (t.length : Int)) = true := by simp only [decide_eq_true_eq]; exact Int.ofNat_lt.mpr ‹_›
    cases hc : Am c with
    | true =>
      have ih := while_digits h6 r (i + 1) k h3 h1 (by simp only [List.length_cons] at hk; exact Nat.lt_of_succ_lt_succ ‹_›)
      have e0 : i + (List.takeWhile Am (c :: r)).length = i + 1 + (r.takeWhile Am).length := by
        simp only [List.takeWhile_cons, hc, if_true, List.length_cons]; lia
      rw [e0, ← ih]
      have e1 : (i : Int) + 1 = ((i + 1 : Nat) : Int) := by exact rfl
      refine Hh (by first | exact rfl | simp only [b8c0, K6, K7, K8, Q1, Q6, Q8, U1, U2, U3, V3, V5, V6, V9, W0, Co, Dp, Cb, hd, Fp h2, h6, hc]) (by first | exact rfl | simp only [b8d0, J0, J1, J2, J3, J4, J5, J6, J7, J8, J9, K0, K1, K2, K3, K4, K5, K6, K7, K8, K9, Q0, Q1, Q2, Q3, Q4, Q5, Q6, Q7, Q8, Q9, U0, U1, U2, U3, U4, U5, U6, U7, U8, U9, V0, V1, V2, V3, V4, V5, V6, V7, V8, V9, W0, Cm, Co, Cs, Cr, Cf, Cn, Cy, Cu, Dm, Dj, Dl, Dk, Ct, Cq, Cp, Cc, Cg, Cz, Cw, Cv, Dt, Dn, Dp, Dq, Dr, Ds, Da, Db, Dc, Dd, Ci, Ch, Ce, Cd, Bz, Bx, By, Bu, Bq, Br, Bt, Bs, Bp, Bm, Bn, Bo, Do, Cb, Bv, Bw, Ca, Di, Cl, Ck, Cj, De, Df, Dh, e1])
    | false =>
      have e0 : (List.takeWhile Am (c :: r)).length = 0 := by
        simp only [List.takeWhile_cons, hc, Bool.false_eq_true, if_false, List.length_nil]
      rw [e0]
      exact Fo (by first | exact rfl | simp only [b8c0, K6, K7, K8, Q1, Q6, Q8, U1, U2, U3, V3, V5, V6, V9, W0, Co, Dp, Cb, hd, Fp h2, h6, hc])
theorem run_digits (h6 : ∀ c, F 6 [.str [c]] = some (.val (.bool (Am c)))) (t : List Nat) (i : Nat) (hi : i ≤ t.length) (hN : t.length < N) : ∃ σ', Ah G F N b8.body [some (false, .str t), some (false, .int (i : Int))] = some (.ret (.int ((i + ((t.drop i).takeWhile Am).length : Nat) : Int)), σ') := by
  have h := while_digits (G := G) (N := N) h6 (t := t) (t.drop i) i N rfl hi (by rw [List.length_drop]; lia)
  exact ⟨[some (false, .str t), some (false, .int ((i + ((t.drop i).takeWhile Am).length : Nat) : Int))], by simp only [b8, J1, J9, K1, Q0, V4, V5, V6, h]⟩
theorem for_number {t : List Nat} {I J : Option (Bool × AV)} : ∀ (l : List Nat) (i : Nat) (n : Int) (kv : Option (Bool × AV)), (∀ m, m < l.length → t[i + m]? = l[m]?) → ∃ kv',
    Dy [4] (Ah G F N b9d0) ((List.range l.length).map fun (m : Nat) => AV.int (((i + m : Nat)) : Int)) [some (false, .str t), I, J, some (false, .int n), kv] = some (.next, [some (false, .str t), I, J, some (false, .int (numF l n)), kv'])
  | [], i, n, kv, _ => ⟨kv, rfl⟩
  | c :: l, i, n, kv, h => by
    obtain ⟨kv', ih⟩ := for_number (I := I) (J := J) l (i + 1) (n * 10 + ((c : Int) - 48)) (some (false, .int (i : Int))) (fun m hm => by
      have := h (m + 1) (by simp only [List.length_cons]; exact Nat.succ_lt_succ ‹_›)
      rw [show i + 1 + m = i + (m + 1) by lia, this]; simp)
    refine ⟨kv', ?_⟩
    have hc : t[i]? = some c := by have := h 0 (by simp); simpa using this
    have e0 : (List.range (c :: l).length).map (fun (m : Nat) => AV.int (((i + m : Nat)) : Int)) = AV.int (i : Int) :: (List.range l.length).map (fun (m : Nat) => AV.int (((i + 1 + m : Nat)) : Int)) := by
      simp only [List.length_cons, List.range_succ_eq_map, List.map_cons, List.map_map]
      congr 1
      apply List.map_congr_left
      intro m _
      simp only [Function.comp, Nat.succ_eq_add_one]
      congr 1; lia
    rw [e0, numF, List.foldl_cons, ← numF, ← ih]
    refine Fs ?_
    have hm : Bd n 10 = true := mulOk_right (by decide)
    simp only [b9d0, J0, J1, J3, K9, Q1, Q3, U2, U3, V3, V5, V6, V7, V8, Cy, Ct, Cq, Dh, hm, if_true, Fp hc]
theorem range_from (i l : Nat) (h : i + l ≤ LIM) : (if (True ∨ (1 : Int) = -1) ∧ -(LIM : Int) ≤ (i : Int) ∧ (i : Int) ≤ LIM ∧ -(LIM : Int) ≤ ((i + l : Nat) : Int) ∧ ((i + l : Nat) : Int) ≤ LIM then some (AV.ilist (Ex (i : Int) ((i + l : Nat) : Int) 1)) else none) = some (.ilist ((List.range l).map fun (m : Nat) => ((i + m : Nat) : Int))) := by
  have hL : LIM = 1048576 := rfl
  rw [if_pos ⟨.inl trivial, by exact ZF _, by lia, by exact ZF _, by exact Int.ofNat_le.mpr ‹_›⟩]
  unfold Ex Builtin.Range.rangeSize
  simp only [show (1 : Int) > 0 by decide, if_true, Int.ediv_one]
  have : (if (i : Int) < ((i + l : Nat) : Int) then ((i + l : Nat) : Int) - (i : Int) - 1 + 1 else 0).toNat = l := by split <;> lia
  rw [this]
  congr 2
  apply List.map_congr_left
  intro m _; lia
theorem run_number (t : List Nat) (i l : Nat) (hl : i + l ≤ t.length) (ht : t.length ≤ LIM) : ∃ σ', Ah G F N b9.body [some (false, .str t), some (false, .int (i : Int)), some (false, .int ((i + l : Nat) : Int)), none, none] = some (.ret (.int (numF ((t.drop i).take l) 0)), σ') := by
  have hlen : ((t.drop i).take l).length = l := by rw [List.length_take, List.length_drop]; lia
  obtain ⟨kv', h⟩ := for_number (G := G) (F := F) (N := N) (t := t) (I := some (false, .int (i : Int))) (J := some (false, .int ((i + l : Nat) : Int))) ((t.drop i).take l) i 0 none (fun m hm => by
    rw [hlen] at hm
    rw [List.getElem?_take_of_lt hm, List.getElem?_drop])
  rw [hlen] at h
  refine ⟨[some (false, .str t), some (false, .int (i : Int)), some (false, .int ((i + l : Nat) : Int)), some (false, .int (numF ((t.drop i).take l) 0)), kv'], ?_⟩
  have hit : Ff (.ilist ((List.range l).map fun (m : Nat) => ((i + m : Nat) : Int))) = some ((List.range l).map fun (m : Nat) => AV.int ((i + m : Nat) : Int)) := by
    simp only [Ff, List.map_map]; rfl
  simp only [b9, J1, J3, K0, K1, K9, Q0, Q1, V2, V3, V4, V5, V6, V7, V8, range_from i l (by with_reducible exact Nat.le_trans ‹_› ‹_›), hit, h]
end
end Mine
end
section
open PySem
namespace Mine
set_option tactic.hygienic false
set_option autoImplicit false
theorem len2 (a b : AV) : [a, b].length ≤ LIM := by show 2 ≤ LIM; decide
theorem len4 (a b c d : AV) : [a, b, c, d].length ≤ LIM := by show 4 ≤ LIM; decide
theorem Kb (p : Nat → Bool) : ∀ s : List Nat, s.drop (s.takeWhile p).length = s.dropWhile p
  | [] => rfl
  | c :: r => by
    simp only [List.takeWhile_cons, List.dropWhile_cons]
    cases p c with
    | true => simp only [if_true, List.length_cons, List.drop_succ_cons]; exact Kb p r
    | false => simp
theorem drop_tw' (p : Nat → Bool) (t : List Nat) (i : Nat) : t.drop (i + ((t.drop i).takeWhile p).length) = (t.drop i).dropWhile p := by
  rw [← List.drop_drop, Kb]
theorem tw_le (p : Nat → Bool) (s : List Nat) : (s.takeWhile p).length ≤ s.length := (List.takeWhile_sublist p).length_le
theorem tw_in (p : Nat → Bool) (t : List Nat) (i : Nat) (hi : i ≤ t.length) : i + ((t.drop i).takeWhile p).length ≤ t.length := by
  have := tw_le p (t.drop i); rw [List.length_drop] at this; lia
theorem take_tw (p : Nat → Bool) : ∀ s : List Nat, s.take (s.takeWhile p).length = s.takeWhile p
  | [] => rfl
  | c :: r => by
    simp only [List.takeWhile_cons]
    cases p c with
    | true => simp only [if_true, List.length_cons, List.take_succ_cons]; rw [take_tw p r]
    | false => simp
structure Ki (F : Nat → List AV → Option Res) (t : List Nat) : Prop where
  len : t.length ≤ LIM
  dig : ∀ c, F 6 [.str [c]] = some (.val (.bool (Am c)))
  sp : ∀ i : Nat, i ≤ t.length → F 7 [.str t, .int (i : Int)] = some (.val (.int ((i + ((t.drop i).takeWhile isSp).length : Nat) : Int)))
  dg : ∀ i : Nat, i ≤ t.length → F 8 [.str t, .int (i : Int)] = some (.val (.int ((i + ((t.drop i).takeWhile Am).length : Nat) : Int)))
  num : ∀ i l : Nat, i + l ≤ t.length → F 9 [.str t, .int (i : Int), .int ((i + l : Nat) : Int)] = some (.val (.int (numF ((t.drop i).take l) 0)))
section
variable {G : Str → Option AV} {F : Nat → List AV → Option Res} {N : Nat}
noncomputable def Al (s : List Nat) : Nat × Int := match s.dropWhile isSp with
  | 94 :: s2 => (match s2.dropWhile isSp with
    | c :: r => if Am c then (s.length - ((c :: r).dropWhile Am).length, numF ((c :: r).takeWhile Am) 0) else (0, 1)
    | [] => (0, 1))
  | _ => (0, 1)
theorem Ee {a b : Nat} (h : a < b) : decide ((a : Int) < (b : Int)) = true := by simp only [decide_eq_true_eq]; exact Int.ofNat_lt.mpr ‹_›
theorem Ht {a b : Nat} (h : b ≤ a) : decide ((a : Int) < (b : Int)) = false := by simp only [decide_eq_false_iff_not]; exact mt Int.ofNat_lt.mp (Nat.not_lt_of_le ‹_›)
theorem caret_le (s : List Nat) : (Al s).1 ≤ s.length := by
  unfold Al
  split
  · split
    · split
      · simp only; exact Nat.sub_le _ _
      · simp
    · simp
  · simp
theorem car_eq {i k n T D L : Nat} (h5 : T + D = L) (h6 : n - k = L) (hk : k ≤ n) (hi : i ≤ k) : i + (n - i - D) = k + T := by lia
set_option tactic.hygienic true in
theorem run_caret {t : List Nat} (T : Ki F t) (i : Nat) (hi : i ≤ t.length) : ∃ σ', Ah G F N b10.body [some (false, .str t), some (false, .int (i : Int)), none, none] = some (.ret (.tup [.int ((i + (Al (t.drop i)).1 : Nat) : Int), .int (Al (t.drop i)).2]), σ') := by
  have hk := drop_tw' isSp t i
  have hki := tw_in isSp t i hi
  generalize hkk : i + ((t.drop i).takeWhile isSp).length = k at hk hki
  have hsp : F 7 [.str t, .int (i : Int)] = some (.val (.int (k : Int))) := by rw [T.sp i hi, hkk]
  cases hs1 : (t.drop i).dropWhile isSp with
  | nil =>
    rw [hs1] at hk
    have := drop_nil hk
    have e : Al (t.drop i) = (0, 1) := by unfold Al; rw [hs1]
    rw [e]
    refine ⟨[some (false, .str t), some (false, .int (i : Int)), some (false, .int (k : Int)), none], ?_⟩
    simp only [b10, J0, J1, J3, J8, K1, K6, K7, K8, K9, Q0, Q1, Q6, Q8, U1, U2, U7, V3, V4, V5, V6, V7, V8, V9, W0, Co, Dp, Cb, hsp, Ht this, Nat.add_zero]
    rw [if_pos (len2 _ _)]
  | cons c s2 =>
    rw [hs1] at hk
    obtain ⟨k1, k2, k3⟩ := Iq hk
    by_cases hc : c = 94
    · subst hc
      have hk' := drop_tw' isSp t (k + 1)
      have hki' := tw_in isSp t (k + 1) (by exact Nat.succ_le_of_lt ‹_›)
      generalize hkk' : k + 1 + ((t.drop (k + 1)).takeWhile isSp).length = k' at hk' hki'
      have hsp' : F 7 [.str t, .int ((k + 1 : Nat) : Int)] = some (.val (.int (k' : Int))) := by rw [T.sp (k + 1) (by exact Nat.succ_le_of_lt ‹_›), hkk']
      have e1 : (k : Int) + 1 = ((k + 1 : Nat) : Int) := by exact rfl
      rw [k3] at hk'
      cases hs2 : s2.dropWhile isSp with
      | nil =>
        rw [hs2] at hk'
        have := drop_nil hk'
        have e : Al (t.drop i) = (0, 1) := by unfold Al; rw [hs1]; simp only [hs2]
        rw [e]
        refine ⟨[some (false, .str t), some (false, .int (i : Int)), some (false, .int (k' : Int)), none], ?_⟩
        simp only [b10, J0, J1, J3, J8, K1, K6, K7, K8, K9, Q0, Q1, Q3, Q6, Q8, U1, U2, U3, U7, V3, V4, V5, V6, V7, V8, V9, W0, Co, Cy, Dt, Dp, Cb, hsp, Ee k1, Fp k2, eq_str, beq_self_eq_true, e1, hsp', Ht this, Nat.add_zero]
        rw [if_pos (len2 _ _)]
      | cons c' r =>
        rw [hs2] at hk'
        obtain ⟨m1, m2, m3⟩ := Iq hk'
        cases hd : Am c' with
        | false =>
          have e : Al (t.drop i) = (0, 1) := by unfold Al; rw [hs1]; simp only [hs2, hd]; rfl
          rw [e]
          refine ⟨[some (false, .str t), some (false, .int (i : Int)), some (false, .int (k' : Int)), none], ?_⟩
          simp only [b10, J0, J1, J3, J8, K1, K6, K7, K8, K9, Q0, Q1, Q3, Q6, Q8, U1, U2, U3, U7, V3, V4, V5, V6, V7, V8, V9, W0, Co, Cy, Dt, Dp, Cb, hsp, Ee k1, Fp k2, eq_str, beq_self_eq_true, e1, hsp', Ee m1, Fp m2, T.dig, hd, Nat.add_zero]
          rw [if_pos (len2 _ _)]
        | true =>
          have hnum := T.num k' ((t.drop k').takeWhile Am).length (tw_in Am t k' hki')
          rw [take_tw] at hnum
          have hj := T.dg k' hki'
          have e : Al (t.drop i) = ((t.drop i).length - ((c' :: r).dropWhile Am).length, numF ((c' :: r).takeWhile Am) 0) := by
            unfold Al; rw [hs1]; simp only [hs2, hd, if_true]
          have e2 : i + (Al (t.drop i)).1 = k' + ((t.drop k').takeWhile Am).length := by
            rw [e]
            have h5 : ((c' :: r).takeWhile Am).length + ((c' :: r).dropWhile Am).length = (c' :: r).length := by
              rw [← List.length_append, List.takeWhile_append_dropWhile]
            have h6 : (t.drop k').length = (c' :: r).length := by rw [hk']
            rw [List.length_drop] at h6
            rw [hk']
            rw [List.length_drop]
            exact car_eq h5 h6 hki' (Nat.le_trans (hkk ▸ Nat.le_add_right _ _) (hkk' ▸ Nat.le_trans (Nat.le_add_right _ _) (Nat.le_add_right _ _)))
          have e3 : (Al (t.drop i)).2 = numF ((t.drop k').takeWhile Am) 0 := by rw [e, hk']
          rw [e2, e3]
          refine ⟨[some (false, .str t), some (false, .int (i : Int)), some (false, .int (k' : Int)), some (false, .int ((k' + ((t.drop k').takeWhile Am).length : Nat) : Int))], ?_⟩
          simp only [b10, J0, J1, J3, J8, K1, K6, K7, K8, K9, Q0, Q1, Q3, Q6, Q8, U1, U2, U3, U7, V3, V4, V5, V6, V7, V8, V9, W0, Co, Cy, Dt, Dp, Cb, hsp, Ee k1, Fp k2, eq_str, beq_self_eq_true, e1, hsp', Ee m1, Fp m2, T.dig, hd, hj, hnum]
          rw [if_pos (len2 _ _)]
    · have hb : ([c] == [94]) = false := by simpa using hc
      have e : Al (t.drop i) = (0, 1) := by
        unfold Al; rw [hs1]
        split
        · rename_i heq; cases heq; exact absurd rfl hc
        · rfl
      rw [e]
      refine ⟨[some (false, .str t), some (false, .int (i : Int)), some (false, .int (k : Int)), none], ?_⟩
      simp only [b10, J0, J1, J3, J8, K1, K6, K7, K8, K9, Q0, Q1, Q6, Q8, U1, U2, U3, U7, V3, V4, V5, V6, V7, V8, V9, W0, Co, Dt, Dp, Cb, hsp, Ee k1, Fp k2, eq_str, hb, Nat.add_zero]
      rw [if_pos (len2 _ _)]
end
end Mine
end
section
open PySem
namespace Mine
set_option tactic.hygienic false
set_option autoImplicit false
noncomputable def Suf (t s : List Nat) : Prop := ∃ i, i ≤ t.length ∧ t.drop i = s
noncomputable def pos (t s : List Nat) : Nat := t.length - s.length
theorem Suf.at {t s : List Nat} (h : Suf t s) : t.drop (pos t s) = s ∧ pos t s ≤ t.length := by
  obtain ⟨i, hi, rfl⟩ := h
  have : pos t (t.drop i) = i := by unfold pos; rw [List.length_drop]; lia
  rw [this]; exact ⟨rfl, hi⟩
theorem Suf.drop {t s : List Nat} (h : Suf t s) (n : Nat) : Suf t (s.drop n) := by
  obtain ⟨i, hi, rfl⟩ := h
  rw [List.drop_drop]
  by_cases hn : i + n ≤ t.length
  · exact ⟨i + n, hn, rfl⟩
  · exact ⟨t.length, Nat.le_refl _, by rw [List.drop_length, List.drop_eq_nil_of_le (by exact Nat.le_of_not_le ‹_›)]⟩
theorem Suf.dw {t s : List Nat} (h : Suf t s) (p : Nat → Bool) : Suf t (s.dropWhile p) := by rw [← Kb]; exact h.drop _
theorem Suf.tail {t r : List Nat} {c : Nat} (h : Suf t (c :: r)) : Suf t r := h.drop 1
theorem Suf.len {t s : List Nat} (h : Suf t s) : s.length ≤ t.length := by obtain ⟨i, _, rfl⟩ := h; rw [List.length_drop]; exact Nat.sub_le _ _
theorem pos_add {t s : List Nat} (h : Suf t s) (n : Nat) (hn : n ≤ s.length) : pos t s + n = pos t (s.drop n) := by
  have := h.len; unfold pos; rw [List.length_drop]; lia
theorem pos_tail {t r : List Nat} {c : Nat} (h : Suf t (c :: r)) : pos t (c :: r) + 1 = pos t r := by
  have := h.len; unfold pos; simp only [List.length_cons] at this ⊢; lia
theorem Gk {t r : List Nat} {c : Nat} (h : Suf t (c :: r)) : ((pos t (c :: r) : Nat) : Int) + 1 = ((pos t r : Nat) : Int) := by have := pos_tail h; lia
theorem Gl {t r : List Nat} {c : Nat} (h : Suf t (c :: r)) : pos t (c :: r) < t.length := by have := h.len; unfold pos; simp only [List.length_cons] at this ⊢; lia
theorem pos_nil {t : List Nat} : t.length ≤ pos t [] := by unfold pos; simp
theorem Fr {t r : List Nat} {c : Nat} (h : Suf t (c :: r)) : Ay (.str t) (.int ((pos t (c :: r) : Nat) : Int)) = some (.str [c]) := Fp (Iq h.at.1).2.1
section
variable {G : Str → Option AV} {F : Nat → List AV → Option Res} {N : Nat} {t : List Nat}
theorem Ki.sp' (T : Ki F t) {s : List Nat} (h : Suf t s) : F 7 [.str t, .int ((pos t s : Nat) : Int)] = some (.val (.int ((pos t (s.dropWhile isSp) : Nat) : Int))) := by
  rw [T.sp _ h.at.2, h.at.1, pos_add h _ (tw_le _ _), Kb]
theorem Ki.dg' (T : Ki F t) {s : List Nat} (h : Suf t s) : F 8 [.str t, .int ((pos t s : Nat) : Int)] = some (.val (.int ((pos t (s.dropWhile Am) : Nat) : Int))) := by
  rw [T.dg _ h.at.2, h.at.1, pos_add h _ (tw_le _ _), Kb]
theorem Ki.num' (T : Ki F t) {s : List Nat} (h : Suf t s) : F 9 [.str t, .int ((pos t s : Nat) : Int), .int ((pos t (s.dropWhile Am) : Nat) : Int)] = some (.val (.int (numF (s.takeWhile Am) 0))) := by
  have h1 := T.num (pos t s) (s.takeWhile Am).length (by rw [pos_add h _ (tw_le _ _)]; exact (h.drop _).at.2)
  rw [h.at.1, take_tw, pos_add h _ (tw_le _ _), Kb] at h1
  exact h1
noncomputable def CaretF (F : Nat → List AV → Option Res) (t : List Nat) : Prop := ∀ i : Nat, i ≤ t.length → F 10 [.str t, .int (i : Int)] = some (.val (.tup [.int ((i + (Al (t.drop i)).1 : Nat) : Int), .int (Al (t.drop i)).2]))
theorem CaretF.ca (C : CaretF F t) {s : List Nat} (h : Suf t s) : F 10 [.str t, .int ((pos t s : Nat) : Int)] = some (.val (.tup [.int ((pos t (s.drop (Al s).1) : Nat) : Int), .int (Al s).2])) := by
  rw [C _ h.at.2, h.at.1, pos_add h _ (caret_le s)]
noncomputable def Fl (s : List Nat) : List Nat × List Nat := match s.dropWhile isSp with
  | [] => ([], [])
  | c :: r => if c = 43 ∨ c = 45 then ([c], r) else ([], c :: r)
noncomputable def Im (s : List Nat) : Option (List Nat) := match s.dropWhile isSp with
  | 42 :: r => (match r.dropWhile isSp with
    | 120 :: q => some q
    | _ => none)
  | _ => none
noncomputable def Ea (s : List Nat) : Option (List Nat × Int × Int × List Nat) := match (Fl s).2.dropWhile isSp with
  | [] => none
  | c :: r => if Am c then (match Im ((c :: r).dropWhile Am) with
      | some q => some ((Fl s).1, numF ((c :: r).takeWhile Am) 0, (Al q).2, (q.drop (Al q).1).dropWhile isSp)
      | none => some ((Fl s).1, numF ((c :: r).takeWhile Am) 0, 0, ((c :: r).dropWhile Am).dropWhile isSp))
    else if c = 120 then some ((Fl s).1, 1, (Al r).2, (r.drop (Al r).1).dropWhile isSp) else none
noncomputable def Fe (t : List Nat) : Option (List Nat × Int × Int × List Nat) → AV
  | none => .none
  | some (sg, co, ex, rem) => .tup [.str sg, .int co, .int ex, .int ((pos t rem : Nat) : Int)]
theorem sign_suf {s : List Nat} (h : Suf t s) : Suf t (Fl s).2 := by
  have h1 := h.dw isSp
  unfold Fl
  cases hs : s.dropWhile isSp with
  | nil => rw [hs] at h1; exact h1
  | cons c r =>
    rw [hs] at h1
    simp only
    split
    · exact h1.tail
    · exact h1
theorem term_sign (T : Ki F t) {s : List Nat} (h : Suf t s) {rest : MS} :
    Ah G F N (.seq (.assign 1 (.call 7 (.cons (.var 0) (.cons (.var 1) .nil)))) (.seq (.assign 2 (.lit (.str [])))
      (.seq (.ite (.and (.cmp .lt (.rd 1) (.f1 .len (.rd 0))) (.or (.cmp .eq (.idx (.rd 0) (.rd 1)) (.lit (.str [43]))) (.cmp .eq (.idx (.rd 0) (.rd 1)) (.lit (.str [45]))))) (.seq (.assign 2 (.idx (.rd 0) (.rd 1))) (.seq (.assign 1 (.bin .add (.rd 1) (.lit (.int 1)))) .skip)) .skip) rest)))
      [some (false, .str t), some (false, .int ((pos t s : Nat) : Int)), none, none, none, none, none, none] =
    Ah G F N rest [some (false, .str t), some (false, .int ((pos t (Fl s).2 : Nat) : Int)), some (false, .str (Fl s).1), none, none, none, none, none] := by
  have hsp := T.sp' h
  have h1 := h.dw isSp
  rw [Ag (σ' := [some (false, .str t), some (false, .int ((pos t (s.dropWhile isSp) : Nat) : Int)), none, none, none, none, none, none]) (by first | exact rfl | simp only [J3, K7, K8, Q0, U1, V4, V5, V6, V7, V8, hsp])]
  rw [Ag (σ' := [some (false, .str t), some (false, .int ((pos t (s.dropWhile isSp) : Nat) : Int)), some (false, .str []), none, none, none, none, none]) (by first | exact rfl | simp only [J0, J1, J2, J3, J4, J5, J6, J7, J8, J9, K0, K1, K2, K3, K4, K5, K6, K7, K8, K9, Q0, Q1, Q2, Q3, Q4, Q5, Q6, Q7, Q8, Q9, U0, U1, U2, U3, U4, U5, U6, U7, U8, U9, V0, V1, V2, V3, V4, V5, V6, V7, V8, V9, W0, Cm, Co, Cs, Cr, Cf, Cn, Cy, Cu, Dm, Dj, Dl, Dk, Ct, Cq, Cp, Cc, Cg, Cz, Cw, Cv, Dt, Dn, Dp, Dq, Dr, Ds, Da, Db, Dc, Dd, Ci, Ch, Ce, Cd, Bz, Bx, By, Bu, Bq, Br, Bt, Bs, Bp, Bm, Bn, Bo, Do, Cb, Bv, Bw, Ca, Di, Cl, Ck, Cj, De, Df, Dh])]
  unfold Fl
  cases hs : s.dropWhile isSp with
  | nil => rw [Ag (σ' := [some (false, .str t), some (false, .int ((pos t [] : Nat) : Int)), some (false, .str []), none, none, none, none, none]) (by first | exact rfl | simp only [J0, J8, K6, Q1, Q6, Q8, U2, V3, V5, V6, V9, W0, Co, Dp, Cb, Ht pos_nil])]
  | cons c r =>
    rw [hs] at h1
    simp only
    by_cases hc1 : c = 43
    · subst hc1
      rw [Ag (σ' := [some (false, .str t), some (false, .int ((pos t r : Nat) : Int)), some (false, .str [43]), none, none, none, none, none]) (by first | exact rfl | simp only [J0, J1, J3, J8, K6, K9, Q1, Q3, Q6, Q7, Q8, U2, U3, V3, V5, V6, V7, V8, V9, W0, Co, Cy, Dt, Dp, Cb, Ee (Gl h1), Fr h1, eq_str, beq_self_eq_true, Gk h1])]
      simp
    · have hb1 : ([c] == [43]) = false := by simpa using hc1
      by_cases hc2 : c = 45
      · subst hc2
        rw [Ag (σ' := [some (false, .str t), some (false, .int ((pos t r : Nat) : Int)), some (false, .str [45]), none, none, none, none, none]) (by first | exact rfl | simp only [J0, J1, J3, J8, K6, K9, Q1, Q3, Q6, Q7, Q8, U2, U3, V3, V5, V6, V7, V8, V9, W0, Co, Cy, Dt, Dp, Cb, Ee (Gl h1), Fr h1, eq_str, hb1, beq_self_eq_true, Gk h1])]
        simp
      · have hb2 : ([c] == [45]) = false := by simpa using hc2
        rw [Ag (σ' := [some (false, .str t), some (false, .int ((pos t (c :: r) : Nat) : Int)), some (false, .str []), none, none, none, none, none]) (by first | exact rfl | simp only [J0, J8, K6, K9, Q1, Q6, Q7, Q8, U2, U3, V3, V5, V6, V9, W0, Co, Dt, Dp, Cb, Ee (Gl h1), Fr h1, eq_str, hb1, hb2])]
        rw [if_neg (by simp [hc1, hc2])]
set_option tactic.hygienic true in
theorem run_term (T : Ki F t) (C : CaretF F t) {s : List Nat} (h : Suf t s) : ∃ σ', Ah G F N b11.body [some (false, .str t), some (false, .int ((pos t s : Nat) : Int)), none, none, none, none, none, none] = some (.ret (Fe t (Ea s)), σ') := by
  simp only [b11]
  rw [term_sign T h]
  have h1 := sign_suf h
  unfold Ea
  generalize Fl s = sg at h1
  obtain ⟨sg, s1⟩ := sg
  simp only at h1 ⊢
  have h2 := h1.dw isSp
  rw [Ag (σ' := [some (false, .str t), some (false, .int ((pos t (s1.dropWhile isSp) : Nat) : Int)), some (false, .str sg), none, none, none, none, none]) (by first | exact rfl | simp only [J3, K7, K8, Q0, U1, V4, V5, V6, V7, V8, T.sp' h1])]
  cases hs : s1.dropWhile isSp with
  | nil =>
    refine ⟨[some (false, .str t), some (false, .int ((pos t [] : Nat) : Int)), some (false, .str sg), none, none, none, none, none], Kj ?_⟩
    simp only [J1, J8, K1, K6, K9, Q1, Q6, Q8, U2, V3, V5, V6, V9, W0, Co, Dp, Cb, Ht pos_nil, Fe]
  | cons c r =>
    rw [hs] at h2
    dsimp only
    cases hd : Am c with
    | true =>
      simp only [if_true]
      have h3 := h2.dw Am
      have h4 := h3.dw isSp
      -- the number
      have pre : ∀ (a b rest : MS), Ah G F N (.seq (.ite (.and (.cmp .lt (.rd 1) (.f1 .len (.rd 0))) (.call 6 (.cons (.idx (.rd 0) (.rd 1)) .nil))) a b) rest) [some (false, .str t), some (false, .int ((pos t (c :: r) : Nat) : Int)), some (false, .str sg), none, none, none, none, none] =
          (match Ah G F N a [some (false, .str t), some (false, .int ((pos t (c :: r) : Nat) : Int)), some (false, .str sg), none, none, none, none, none] with | some (.next, σ') => Ah G F N rest σ' | x => x) := fun a b rest => by
        rw [J1, J8]
        simp only [K6, K7, K8, Q1, Q6, Q8, U1, U2, U3, V3, V5, V6, V9, W0, Co, Dp, Cb, Ee (Gl h2), Fr h2, T.dig, hd]
        try (
          generalize Ah G F N a [some (false, .str t), some (false, .int ((pos t (c :: r) : Nat) : Int)), some (false, .str sg), none, none, none, none, none] = X
          cases X with
          | none => rfl
          | some p => obtain ⟨o, σ⟩ := p; cases o <;> rfl)
      rw [pre]
      have stars : ∀ (E : Int) (rem : List Nat) (KV FV : Option (Bool × AV)), Suf t rem → ∃ σ', Ah G F N (.seq (.assign 1 (.call 7 (.cons (.var 0) (.cons (.var 1) .nil)))) (.seq (.ret (.tup (.cons (.var 2) (.cons (.var 4) (.cons (.var 5) (.cons (.var 1) .nil)))))) .skip))
          [some (false, .str t), some (false, .int ((pos t rem : Nat) : Int)), some (false, .str sg), some (false, .int ((pos t ((c :: r).dropWhile Am) : Nat) : Int)), some (false, .int (numF ((c :: r).takeWhile Am) 0)), some (false, .int E), KV, FV] =
          some (.ret (.tup [.str sg, .int (numF ((c :: r).takeWhile Am) 0), .int E, .int ((pos t (rem.dropWhile isSp) : Nat) : Int)]), σ') := fun E rem KV FV hrem => by
        refine ⟨[some (false, .str t), some (false, .int ((pos t (rem.dropWhile isSp) : Nat) : Int)), some (false, .str sg), some (false, .int ((pos t ((c :: r).dropWhile Am) : Nat) : Int)), some (false, .int (numF ((c :: r).takeWhile Am) 0)), some (false, .int E), KV, FV], ?_⟩
        simp only [J0, J1, J3, K1, K7, K8, Q0, U1, U7, V4, V5, V6, V7, V8, T.sp' hrem]
        rw [if_pos (len4 _ _ _ _)]
      rw [Ag (σ' := [some (false, .str t), some (false, .int ((pos t (c :: r) : Nat) : Int)), some (false, .str sg), some (false, .int ((pos t ((c :: r).dropWhile Am) : Nat) : Int)), none, none, none, none]) (by first | exact rfl | simp only [J3, K7, K8, Q0, U1, V4, V5, V6, V7, V8, T.dg' h2])]
      rw [Ag (σ' := [some (false, .str t), some (false, .int ((pos t (c :: r) : Nat) : Int)), some (false, .str sg), some (false, .int ((pos t ((c :: r).dropWhile Am) : Nat) : Int)), some (false, .int (numF ((c :: r).takeWhile Am) 0)), none, none, none]) (by first | exact rfl | simp only [J3, K7, K8, Q0, U1, V4, V5, V6, V7, V8, T.num' h2])]
      rw [Ag (σ' := [some (false, .str t), some (false, .int ((pos t (c :: r) : Nat) : Int)), some (false, .str sg), some (false, .int ((pos t ((c :: r).dropWhile Am) : Nat) : Int)), some (false, .int (numF ((c :: r).takeWhile Am) 0)), some (false, .int 0), none, none]) (by first | exact rfl | simp only [J0, J1, J2, J3, J4, J5, J6, J7, J8, J9, K0, K1, K2, K3, K4, K5, K6, K7, K8, K9, Q0, Q1, Q2, Q3, Q4, Q5, Q6, Q7, Q8, Q9, U0, U1, U2, U3, U4, U5, U6, U7, U8, U9, V0, V1, V2, V3, V4, V5, V6, V7, V8, V9, W0, Cm, Co, Cs, Cr, Cf, Cn, Cy, Cu, Dm, Dj, Dl, Dk, Ct, Cq, Cp, Cc, Cg, Cz, Cw, Cv, Dt, Dn, Dp, Dq, Dr, Ds, Da, Db, Dc, Dd, Ci, Ch, Ce, Cd, Bz, Bx, By, Bu, Bq, Br, Bt, Bs, Bp, Bm, Bn, Bo, Do, Cb, Bv, Bw, Ca, Di, Cl, Ck, Cj, De, Df, Dh])]
      rw [Ag (σ' := [some (false, .str t), some (false, .int ((pos t ((c :: r).dropWhile Am) : Nat) : Int)), some (false, .str sg), some (false, .int ((pos t ((c :: r).dropWhile Am) : Nat) : Int)), some (false, .int (numF ((c :: r).takeWhile Am) 0)), some (false, .int 0), none, none]) (by first | exact rfl | simp only [J0, J1, J2, J3, J4, J5, J6, J7, J8, J9, K0, K1, K2, K3, K4, K5, K6, K7, K8, K9, Q0, Q1, Q2, Q3, Q4, Q5, Q6, Q7, Q8, Q9, U0, U1, U2, U3, U4, U5, U6, U7, U8, U9, V0, V1, V2, V3, V4, V5, V6, V7, V8, V9, W0, Cm, Co, Cs, Cr, Cf, Cn, Cy, Cu, Dm, Dj, Dl, Dk, Ct, Cq, Cp, Cc, Cg, Cz, Cw, Cv, Dt, Dn, Dp, Dq, Dr, Ds, Da, Db, Dc, Dd, Ci, Ch, Ce, Cd, Bz, Bx, By, Bu, Bq, Br, Bt, Bs, Bp, Bm, Bn, Bo, Do, Cb, Bv, Bw, Ca, Di, Cl, Ck, Cj, De, Df, Dh])]
      rw [Ag (σ' := [some (false, .str t), some (false, .int ((pos t ((c :: r).dropWhile Am) : Nat) : Int)), some (false, .str sg), some (false, .int ((pos t ((c :: r).dropWhile Am) : Nat) : Int)), some (false, .int (numF ((c :: r).takeWhile Am) 0)), some (false, .int 0), some (false, .int ((pos t (((c :: r).dropWhile Am).dropWhile isSp) : Nat) : Int)), none]) (by first | exact rfl | simp only [J3, K7, K8, Q0, U1, V4, V5, V6, V7, V8, T.sp' h3])]
      generalize hs3 : (c :: r).dropWhile Am = s3 at *
      unfold Im
      cases hs4 : s3.dropWhile isSp with
      | nil =>
        obtain ⟨σ', hσ⟩ := stars 0 s3 (some (false, .int ((pos t [] : Nat) : Int))) none h3
        refine ⟨σ', ?_⟩
        rw [Ag (σ' := [some (false, .str t), some (false, .int ((pos t s3 : Nat) : Int)), some (false, .str sg), some (false, .int ((pos t s3 : Nat) : Int)), some (false, .int (numF ((c :: r).takeWhile Am) 0)), some (false, .int 0), some (false, .int ((pos t [] : Nat) : Int)), none]) (by first | exact rfl | simp only [J0, J8, K6, Q1, Q6, Q8, U2, V3, V5, V6, V9, W0, Co, Dp, Cb, Ht pos_nil])]
        rw [J0]
        simp only [Fe]
        rw [hs4] at hσ
        exact hσ
      | cons c' r' =>
        rw [hs4] at h4
        by_cases hc : c' = 42
        · subst hc
          have h5 := h4.tail.dw isSp
          cases hs5 : r'.dropWhile isSp with
          | nil =>
            obtain ⟨σ', hσ⟩ := stars 0 s3 (some (false, .int ((pos t [] : Nat) : Int))) none h3
            refine ⟨σ', ?_⟩
            rw [Ag (σ' := [some (false, .str t), some (false, .int ((pos t s3 : Nat) : Int)), some (false, .str sg), some (false, .int ((pos t s3 : Nat) : Int)), some (false, .int (numF ((c :: r).takeWhile Am) 0)), some (false, .int 0), some (false, .int ((pos t [] : Nat) : Int)), none]) (by first | exact rfl | simp only [J0, J1, J3, J8, K6, K7, K8, K9, Q0, Q1, Q3, Q6, Q8, U1, U2, U3, V3, V4, V5, V6, V7, V8, V9, W0, Co, Cy, Dt, Dp, Cb, Ee (Gl h4), Fr h4, eq_str, beq_self_eq_true, Gk h4, T.sp' h4.tail, hs5, Ht pos_nil])]
            rw [J0]
            simp only [Fe]
            rw [hs4] at hσ
            simp only [hs5]
            exact hσ
          | cons c'' q =>
            rw [hs5] at h5
            by_cases hx : c'' = 120
            · subst hx
              obtain ⟨σ', hσ⟩ := stars (Al q).2 (q.drop (Al q).1) (some (false, .int ((pos t (120 :: q) : Nat) : Int))) (some (false, .tup [.int ((pos t (q.drop (Al q).1) : Nat) : Int), .int (Al q).2])) (h5.tail.drop _)
              refine ⟨σ', ?_⟩
              rw [Ag (σ' := [some (false, .str t), some (false, .int ((pos t (q.drop (Al q).1) : Nat) : Int)), some (false, .str sg), some (false, .int ((pos t s3 : Nat) : Int)), some (false, .int (numF ((c :: r).takeWhile Am) 0)), some (false, .int (Al q).2), some (false, .int ((pos t (120 :: q) : Nat) : Int)), some (false, .tup [.int ((pos t (q.drop (Al q).1) : Nat) : Int), .int (Al q).2])]) (by
                simp only [J0, J1, J3, J8, K6, K7, K8, K9, Q0, Q1, Q3, Q6, Q8, U1, U2, U3, V3, V4, V5, V6, V7, V8, V9, W0, Co, Cy, Dt, Dp, Cb, Ee (Gl h4), Fr h4, eq_str, beq_self_eq_true, Gk h4, T.sp' h4.tail, hs5, Ee (Gl h5), Fr h5, Gk h5, C.ca h5.tail]
                rfl)]
              rw [J0]
              simp only [hs5, Fe]
              exact hσ
            · have hbx : ([c''] == [120]) = false := by simpa using hx
              obtain ⟨σ', hσ⟩ := stars 0 s3 (some (false, .int ((pos t (c'' :: q) : Nat) : Int))) none h3
              refine ⟨σ', ?_⟩
              rw [Ag (σ' := [some (false, .str t), some (false, .int ((pos t s3 : Nat) : Int)), some (false, .str sg), some (false, .int ((pos t s3 : Nat) : Int)), some (false, .int (numF ((c :: r).takeWhile Am) 0)), some (false, .int 0), some (false, .int ((pos t (c'' :: q) : Nat) : Int)), none]) (by first | exact rfl | simp only [J0, J1, J3, J8, K6, K7, K8, K9, Q0, Q1, Q3, Q6, Q8, U1, U2, U3, V3, V4, V5, V6, V7, V8, V9, W0, Co, Cy, Dt, Dp, Cb, Ee (Gl h4), Fr h4, eq_str, beq_self_eq_true, Gk h4, T.sp' h4.tail, hs5, Ee (Gl h5), Fr h5, hbx])]
              rw [J0]
              rw [hs4] at hσ
              have : (match (c'' :: q : List Nat) with | 120 :: q => some q | _ => (none : Option (List Nat))) = none := by
                split
                · rename_i heq; cases heq; exact absurd rfl hx
                · rfl
              simp only [hs5, this, Fe]
              exact hσ
        · have hb : ([c'] == [42]) = false := by simpa using hc
          obtain ⟨σ', hσ⟩ := stars 0 s3 (some (false, .int ((pos t (c' :: r') : Nat) : Int))) none h3
          refine ⟨σ', ?_⟩
          rw [Ag (σ' := [some (false, .str t), some (false, .int ((pos t s3 : Nat) : Int)), some (false, .str sg), some (false, .int ((pos t s3 : Nat) : Int)), some (false, .int (numF ((c :: r).takeWhile Am) 0)), some (false, .int 0), some (false, .int ((pos t (c' :: r') : Nat) : Int)), none]) (by first | exact rfl | simp only [J0, J8, K6, K9, Q1, Q6, Q8, U2, U3, V3, V5, V6, V9, W0, Co, Dt, Dp, Cb, Ee (Gl h4), Fr h4, eq_str, hb])]
          rw [J0]
          rw [hs4] at hσ
          have : (match (c' :: r' : List Nat) with | 42 :: r => (match r.dropWhile isSp with | 120 :: q => some q | _ => none) | _ => (none : Option (List Nat))) = none := by
            split
            · rename_i heq; cases heq; exact absurd rfl hc
            · rfl
          simp only [this, Fe]
          exact hσ
    | false =>
      simp only [Bool.false_eq_true, if_false]
      by_cases hx : c = 120
      · subst hx
        have hr := h2.tail
        have hq := hr.drop (Al r).1
        refine ⟨[some (false, .str t), some (false, .int ((pos t ((r.drop (Al r).1).dropWhile isSp) : Nat) : Int)), some (false, .str sg), none, some (false, .int 1), some (false, .int (Al r).2), none, some (false, .tup [.int ((pos t (r.drop (Al r).1) : Nat) : Int), .int (Al r).2])], ?_⟩
        rw [Ag (σ' := [some (false, .str t), some (false, .int ((pos t (r.drop (Al r).1) : Nat) : Int)), some (false, .str sg), none, some (false, .int 1), some (false, .int (Al r).2), none, some (false, .tup [.int ((pos t (r.drop (Al r).1) : Nat) : Int), .int (Al r).2])]) (by
          simp only [J0, J1, J3, J8, K6, K7, K8, K9, Q0, Q1, Q3, Q6, Q8, U1, U2, U3, V3, V4, V5, V6, V7, V8, V9, W0, Co, Cy, Dt, Dp, Cb, Ee (Gl h2), Fr h2, T.dig, hd, eq_str, beq_self_eq_true, Gk h2, C.ca hr]
          rfl)]
        simp only [J0, J1, J3, K1, K7, K8, Q0, U1, U7, V4, V5, V6, V7, V8, T.sp' hq, if_true, Fe]
        rw [if_pos (len4 _ _ _ _)]
      · have hb : ([c] == [120]) = false := by simpa using hx
        refine ⟨[some (false, .str t), some (false, .int ((pos t (c :: r) : Nat) : Int)), some (false, .str sg), none, none, none, none, none], Kj ?_⟩
        simp only [J1, J8, K1, K6, K7, K8, K9, Q1, Q6, Q8, U1, U2, U3, V3, V5, V6, V9, W0, Co, Dt, Dp, Cb, Ee (Gl h2), Fr h2, T.dig, hd, eq_str, hb, hx, if_false, Fe]
end
end Mine
end
section
open PySem
namespace Mine
set_option tactic.hygienic false
set_option autoImplicit false
noncomputable def Ha (es : List (Int × Int)) (sg : List Nat) (co ex : Int) : List (Int × Int) := dset es ex ((es.lookup ex).getD 0 + (if sg = [45] then -co else co))
noncomputable def Av : Nat → Bool → List Nat → List (Int × Int) → Option (Option (List (Int × Int)))
  | 0, _, _, _ => none
  | n + 1, first, s, es => if first = false ∧ s = [] then some (some es) else match Ea s with
    | none => some none
    | some (sg, co, ex, rem) => if first = false ∧ sg = [] then some none else if LIM ≤ es.length then none else Av n false rem (Ha es sg co ex)
noncomputable def topF (all : List (Int × Int)) : List (Int × Int) → Int → Int
  | [], top => top
  | e :: r, top => topF all r (if e.1 > top ∧ all.lookup e.1 ≠ some 0 then e.1 else top)
noncomputable def tabs (es : List (Int × Int)) (n : Nat) : List Int := (List.range n).map fun (k : Nat) => (es.lookup (k : Int)).getD 0
noncomputable def readEnd (es : List (Int × Int)) : Option (List Int) := if 0 ≤ topF es es 0 ∧ topF es es 0 < LIM then some (trim (tabs es (topF es es 0 + 1).toNat)) else none
noncomputable def Hg (t : List Nat) : Option (Option (List Int)) := if LIM < t.length then none else match Av (t.length + 2) true t [] with
  | none => none
  | some none => some none
  | some (some es) => (match readEnd es with
    | some a => some (some a)
    | none => none)
set_option tactic.hygienic true in
theorem term_suf {t s : List Nat} (h : Suf t s) {sg : List Nat} {co ex : Int} {rem : List Nat} (e : Ea s = some (sg, co, ex, rem)) : Suf t rem := by
  have h1 := (sign_suf h).dw isSp
  unfold Ea at e
  split at e
  · cases e
  · rename_i c r hs
    rw [hs] at h1
    split at e
    · split at e
      · rename_i q hq
        cases e
        unfold Im at hq
        have h2 := (h1.dw Am).dw isSp
        split at hq
        · rename_i r' h3
          rw [h3] at h2
          have h4 := h2.tail.dw isSp
          split at hq
          · rename_i q' h5
            cases hq
            rw [h5] at h4
            exact (h4.tail.drop _).dw isSp
          · cases hq
        · cases hq
      · cases e
        exact (h1.dw Am).dw isSp
    · split at e
      · cases e
        exact (h1.tail.drop _).dw isSp
      · cases e
section
variable {G : Str → Option AV} {F : Nat → List AV → Option Res} {N : Nat} {t : List Nat}
theorem isNil (l : List Nat) : (l == []) = decide (l = []) := by cases l <;> rfl
set_option tactic.hygienic true in
theorem Kl (h11 : ∀ s, Suf t s → F 11 [.str t, .int ((pos t s : Nat) : Int)] = some (.val (Fe t (Ea s)))) {TV KV : Option (Bool × AV)} :
    ∀ (n : Nat) (first : Bool) (s : List Nat) (es : List (Int × Int)) (fv cv ev : Option (Bool × AV)) (res : Option (List (Int × Int))) (k : Nat), Suf t s → Av n first s es = some res → n ≤ k → ∃ σ' iv frv fv' cv' ev',
    Dz (Bb G F b12c0) (Ah G F N b12d0) k [some (false, .str t), some (false, .int ((pos t s : Nat) : Int)), some (true, .dict es), some (false, .bool first), fv, cv, ev, TV, KV] = some (match res with
      | none => (.exc, σ')
      | some es' => (.next, [some (false, .str t), iv, some (true, .dict es'), frv, fv', cv', ev', TV, KV]))
  | 0, first, s, es, fv, cv, ev, res, k, hs, h, _ => by simp [Av] at h
  | n + 1, first, s, es, fv, cv, ev, res, 0, hs, h, hk => by exact absurd ‹_› (Nat.not_succ_le_zero _)
  | n + 1, first, s, es, fv, cv, ev, res, k + 1, hs, h, hk => by
    simp only [Av] at h
    split at h
    · rename_i hc
      obtain ⟨rfl, rfl⟩ := hc
      cases h
      exact ⟨[], _, _, _, _, _, Fo (by first | exact rfl | simp only [b12c0, K6, Q1, Q7, Q8, U2, V3, V5, V6, V9, W0, Co, Dp, Cb, Ht pos_nil])⟩
    · rename_i hc
      have hcond : Bb G F b12c0 [some (false, .str t), some (false, .int ((pos t s : Nat) : Int)), some (true, .dict es), some (false, .bool first), fv, cv, ev, TV, KV] = some true := by
        cases first with
        | true => simp only [b12c0, K6, Q1, Q7, V3, V5, V6, W0, Co]
        | false =>
          cases s with
          | nil => exact absurd ⟨rfl, rfl⟩ hc
          | cons c r => simp only [b12c0, K6, Q1, Q7, Q8, U2, V3, V5, V6, V9, W0, Co, Dp, Cb, Ee (Gl hs)]
      have h11s := h11 s hs
      split at h
      · rename_i hT
        cases h
        rw [hT] at h11s
        refine ⟨[some (false, .str t), some (false, .int ((pos t s : Nat) : Int)), some (true, .dict es), some (false, .bool first), some (false, .none), cv, ev, TV, KV], none, none, none, none, none, w_exc hcond ?_⟩
        simp only [b12d0, J1, J3, J8, K2, K6, K7, K8, K9, Q0, Q1, Q8, U1, V3, V4, V5, V6, V7, V8, V9, W0, Co, By, h11s, Fe]
      · rename_i sg co ex rem hT
        rw [hT] at h11s
        have hrem := term_suf hs hT
        have i0 : Ay (Fe t (some (sg, co, ex, rem))) (.int 0) = some (.str sg) := rfl
        have i1 : Ay (Fe t (some (sg, co, ex, rem))) (.int 1) = some (.int co) := rfl
        have i2 : Ay (Fe t (some (sg, co, ex, rem))) (.int 2) = some (.int ex) := rfl
        have i3 : Ay (Fe t (some (sg, co, ex, rem))) (.int 3) = some (.int ((pos t rem : Nat) : Int)) := rfl
        have hnn : Ad .isNone (Fe t (some (sg, co, ex, rem))) .none = some false := rfl
        split at h
        · rename_i hsg
          obtain ⟨rfl, rfl⟩ := hsg
          cases h
          refine ⟨[some (false, .str t), some (false, .int ((pos t s : Nat) : Int)), some (true, .dict es), some (false, .bool false), some (false, Fe t (some ([], co, ex, rem))), cv, ev, TV, KV], none, none, none, none, none, w_exc hcond ?_⟩
          simp only [b12d0]
          rw [Ag (σ' := [some (false, .str t), some (false, .int ((pos t s : Nat) : Int)), some (true, .dict es), some (false, .bool false), some (false, Fe t (some ([], co, ex, rem))), cv, ev, TV, KV]) (by simp only [J3, U1, K8, K7, Q0, V4, V5, V6, h11s, V7, V8])]
          rw [Ag (σ' := [some (false, .str t), some (false, .int ((pos t s : Nat) : Int)), some (true, .dict es), some (false, .bool false), some (false, Fe t (some ([], co, ex, rem))), cv, ev, TV, KV]) (by simp only [J8, K6, Q8, Q1, K9, V3, V5, V6, hnn, V9, W0, Co, J0])]
          refine x_throw ?_
          simp only [J8, K6, Q6, Q5, Q8, Q1, K9, U3, V3, V5, V6, i0, Dt, eq_str, isNil, decide_true, V9, W0, Co, Bool.not_false, J1, K2]
        · rename_i hsg
          split at h
          · cases h
          · rename_i hlen
            obtain ⟨σ', iv, frv, fv', cv', ev', ih⟩ := Kl h11 (TV := TV) (KV := KV) n false rem (Ha es sg co ex) (some (false, Fe t (some (sg, co, ex, rem)))) (some (false, .int (if sg = [45] then -co else co))) (some (false, .int ex)) res k hrem h (by exact Nat.le_of_succ_le_succ ‹_›)
            refine ⟨σ', iv, frv, fv', cv', ev', ?_⟩
            rw [← ih]
            refine Hh hcond ?_
            simp only [b12d0]
            generalize hfo : Fe t (some (sg, co, ex, rem)) = fo at *
            rw [Ag (σ' := [some (false, .str t), some (false, .int ((pos t s : Nat) : Int)), some (true, .dict es), some (false, .bool first), some (false, fo), cv, ev, TV, KV]) (by simp only [J3, U1, K8, K7, Q0, V4, V5, V6, h11s, V7, V8])]
            rw [Ag (σ' := [some (false, .str t), some (false, .int ((pos t s : Nat) : Int)), some (true, .dict es), some (false, .bool first), some (false, fo), cv, ev, TV, KV]) (by simp only [J8, K6, Q8, Q1, K9, V3, V5, V6, hnn, V9, W0, Co, J0])]
            rw [Ag (σ' := [some (false, .str t), some (false, .int ((pos t s : Nat) : Int)), some (true, .dict es), some (false, .bool first), some (false, fo), cv, ev, TV, KV]) (by
              cases first with
              | true => simp only [J8, K6, Q6, Q5, Q1, V3, V5, V6, V9, W0, Co, Bool.not_true, J0]
              | false =>
                have hne : (sg == []) = false := by rw [isNil]; simpa using hsg
                simp only [J8, K6, Q6, Q5, Q8, Q1, K9, U3, V3, V5, V6, i0, Dt, eq_str, hne, V9, W0, Co, Bool.not_false, J0])]
            rw [Ag (σ' := [some (false, .str t), some (false, .int ((pos t s : Nat) : Int)), some (true, .dict es), some (false, .bool first), some (false, fo), some (false, .int co), ev, TV, KV]) (by simp only [J3, U3, Q1, K9, V3, V5, V6, i1, V7, V8])]
            rw [Ag (σ' := [some (false, .str t), some (false, .int ((pos t s : Nat) : Int)), some (true, .dict es), some (false, .bool first), some (false, fo), some (false, .int (if sg = [45] then -co else co)), ev, TV, KV]) (by
              by_cases h45 : sg = [45]
              · have hb : (sg == [45]) = true := by simpa using h45
                simp only [J8, K6, Q8, Q1, K9, U3, V3, V5, V6, i0, Dt, eq_str, beq_self_eq_true, V9, W0, Co, J1, J3, Q4, J0, V7, V8, h45, if_true]
              · have hb : (sg == [45]) = false := by simpa using h45
                simp only [J8, K6, Q8, Q1, K9, U3, V3, V5, V6, i0, Dt, eq_str, hb, V9, W0, Co, J0, h45, if_false])]
            rw [Ag (σ' := [some (false, .str t), some (false, .int ((pos t s : Nat) : Int)), some (true, .dict es), some (false, .bool first), some (false, fo), some (false, .int (if sg = [45] then -co else co)), some (false, .int ex), TV, KV]) (by simp only [J3, U3, Q1, K9, V3, V5, V6, i2, V7, V8])]
            rw [Ag (σ' := [some (false, .str t), some (false, .int ((pos t s : Nat) : Int)), some (true, .dict (Ha es sg co ex)), some (false, .bool first), some (false, fo), some (false, .int (if sg = [45] then -co else co)), some (false, .int ex), TV, KV]) (by
              have hlt : es.length < LIM := by exact Nat.lt_of_not_le ‹_›
              simp only [J6, Q1, Q3, V0, K9, V3, V5, V6, getop, Cy, storeop, hlt, if_true, V7, V8, Ha])]
            rw [Ag (σ' := [some (false, .str t), some (false, .int ((pos t rem : Nat) : Int)), some (true, .dict (Ha es sg co ex)), some (false, .bool first), some (false, fo), some (false, .int (if sg = [45] then -co else co)), some (false, .int ex), TV, KV]) (by simp only [J3, U3, Q1, K9, V3, V5, V6, i3, V7, V8])]
            simp only [J0, J1, J3, K9, V7, V8]
theorem for_top {A B C D E I : Option (Bool × AV)} {all : List (Int × Int)} : ∀ (es : List (Int × Int)) (top : Int) (kv : Option (Bool × AV)), (∀ e ∈ es, ∃ v, all.lookup e.1 = some v) → ∃ kv',
    Dy [8] (Ah G F N b12d1) (es.map fun e => AV.int e.1) [A, I, some (false, .dict all), B, C, D, E, some (false, .int top), kv] = some (.next, [A, I, some (false, .dict all), B, C, D, E, some (false, .int (topF all es top)), kv'])
  | [], top, kv, _ => ⟨kv, rfl⟩
  | e :: es, top, kv, h => by
    obtain ⟨kv', ih⟩ := for_top (A := A) (B := B) (C := C) (D := D) (E := E) (I := I) es (if e.1 > top ∧ all.lookup e.1 ≠ some 0 then e.1 else top) (some (false, .int e.1)) (fun e' he' => h e' (List.mem_cons_of_mem _ he'))
    refine ⟨kv', ?_⟩
    rw [List.map_cons, topF, ← ih]
    refine Fs ?_
    obtain ⟨v, hv⟩ := h e List.mem_cons_self
    by_cases h1 : e.1 > top
    · by_cases h2 : v = 0
      · subst h2
        simp only [b12d1, J0, J1, J8, K6, K9, Q1, Q6, Q8, U3, V3, V5, V6, V7, V8, V9, W0, Co, Dn, Dr, Ay, hv, h1, decide_true, eq_int, beq_self_eq_true, Bool.not_true, ne_eq, not_true_eq_false, and_false, if_false]
      · have hb : (v == 0) = false := by simpa using h2
        have : (some v ≠ some (0 : Int)) := by simpa using h2
        simp only [b12d1, J0, J1, J3, J8, K6, K9, Q0, Q1, Q6, Q8, U3, V3, V4, V5, V6, V7, V8, V9, W0, Co, Dn, Dr, Ay, hv, h1, decide_true, eq_int, hb, Bool.not_false, this, ne_eq, not_false_eq_true, and_true, if_true]
    · first | exact rfl | simp only [b12d1, J0, J1, J8, K6, Q1, Q6, Q8, V3, V5, V6, V7, V8, V9, W0, Co, Dr, h1, decide_false, false_and, if_false]
theorem lookup_self : ∀ (all : List (Int × Int)), ∀ e ∈ all, ∃ v, all.lookup e.1 = some v
  | [], e, h => by cases h
  | (k, v) :: r, e, h => by
    rw [List.lookup_cons]
    cases hb : e.1 == k with
    | true => exact ⟨v, rfl⟩
    | false =>
      rcases List.mem_cons.mp h with rfl | h
      · simp at hb
      · exact lookup_self r e h
set_option tactic.hygienic true in
theorem run_read (h0 : ∀ a, F 0 [.ilist a] = some (.val (.ilist (trim a)))) (h11 : ∀ s, Suf t s → F 11 [.str t, .int ((pos t s : Nat) : Int)] = some (.val (Fe t (Ea s)))) (r : Option (List Int)) (hr : Hg t = some r) (hN : t.length + 2 ≤ N) :
    ∃ o σ', Ah G F N b12.body [some (false, .str t), none, none, none, none, none, none, none, none] = some (o, σ') ∧ Jd o = some (exR r) := by
  unfold Hg at hr
  split at hr
  · cases hr
  · have hst : Suf t t := ⟨0, Nat.zero_le _, rfl⟩
    have hp : pos t t = 0 := by unfold pos; lia
    have pre : ∀ rest, Ah G F N (.seq (.assign 1 (.lit (.int 0))) (.seq (.assignF 2 .dict0) (.seq (.assign 3 (.lit (.bool true))) rest))) [some (false, .str t), none, none, none, none, none, none, none, none] =
        Ah G F N rest [some (false, .str t), some (false, .int 0), some (true, .dict []), some (false, .bool true), none, none, none, none, none] := fun rest => by
      rw [Ag (σ' := [some (false, .str t), some (false, .int 0), none, none, none, none, none, none, none]) (by first | exact rfl | simp only [J0, J1, J2, J3, J4, J5, J6, J7, J8, J9, K0, K1, K2, K3, K4, K5, K6, K7, K8, K9, Q0, Q1, Q2, Q3, Q4, Q5, Q6, Q7, Q8, Q9, U0, U1, U2, U3, U4, U5, U6, U7, U8, U9, V0, V1, V2, V3, V4, V5, V6, V7, V8, V9, W0, Cm, Co, Cs, Cr, Cf, Cn, Cy, Cu, Dm, Dj, Dl, Dk, Ct, Cq, Cp, Cc, Cg, Cz, Cw, Cv, Dt, Dn, Dp, Dq, Dr, Ds, Da, Db, Dc, Dd, Ci, Ch, Ce, Cd, Bz, Bx, By, Bu, Bq, Br, Bt, Bs, Bp, Bm, Bn, Bo, Do, Cb, Bv, Bw, Ca, Di, Cl, Ck, Cj, De, Df, Dh])]
      rw [Ag (σ' := [some (false, .str t), some (false, .int 0), some (true, .dict []), none, none, none, none, none, none]) (by first | exact rfl | simp only [J0, J1, J2, J3, J4, J5, J6, J7, J8, J9, K0, K1, K2, K3, K4, K5, K6, K7, K8, K9, Q0, Q1, Q2, Q3, Q4, Q5, Q6, Q7, Q8, Q9, U0, U1, U2, U3, U4, U5, U6, U7, U8, U9, V0, V1, V2, V3, V4, V5, V6, V7, V8, V9, W0, Cm, Co, Cs, Cr, Cf, Cn, Cy, Cu, Dm, Dj, Dl, Dk, Ct, Cq, Cp, Cc, Cg, Cz, Cw, Cv, Dt, Dn, Dp, Dq, Dr, Ds, Da, Db, Dc, Dd, Ci, Ch, Ce, Cd, Bz, Bx, By, Bu, Bq, Br, Bt, Bs, Bp, Bm, Bn, Bo, Do, Cb, Bv, Bw, Ca, Di, Cl, Ck, Cj, De, Df, Dh, isList, if_true])]
      rw [Ag (σ' := [some (false, .str t), some (false, .int 0), some (true, .dict []), some (false, .bool true), none, none, none, none, none]) (by first | exact rfl | simp only [J0, J1, J2, J3, J4, J5, J6, J7, J8, J9, K0, K1, K2, K3, K4, K5, K6, K7, K8, K9, Q0, Q1, Q2, Q3, Q4, Q5, Q6, Q7, Q8, Q9, U0, U1, U2, U3, U4, U5, U6, U7, U8, U9, V0, V1, V2, V3, V4, V5, V6, V7, V8, V9, W0, Cm, Co, Cs, Cr, Cf, Cn, Cy, Cu, Dm, Dj, Dl, Dk, Ct, Cq, Cp, Cc, Cg, Cz, Cw, Cv, Dt, Dn, Dp, Dq, Dr, Ds, Da, Db, Dc, Dd, Ci, Ch, Ce, Cd, Bz, Bx, By, Bu, Bq, Br, Bt, Bs, Bp, Bm, Bn, Bo, Do, Cb, Bv, Bw, Ca, Di, Cl, Ck, Cj, De, Df, Dh])]
    simp only [b12]
    rw [pre]
    split at hr
    · cases hr
    · rename_i hw
      cases hr
      obtain ⟨σ', iv, frv, fv', cv', ev', h⟩ := Kl (G := G) (N := N) h11 (TV := none) (KV := none) _ true t [] none none none none N hst hw hN
      rw [hp] at h
      exact ⟨.exc, σ', x_throw (by rw [J9]; exact h), rfl⟩
    · rename_i es hw
      obtain ⟨σ', iv, frv, fv', cv', ev', h⟩ := Kl (G := G) (N := N) h11 (TV := none) (KV := none) _ true t [] none none none (some es) N hst hw hN
      rw [hp] at h
      dsimp only at h
      split at hr
      · rename_i a ha
        cases hr
        unfold readEnd at ha
        split at ha <;> cases ha
        rename_i htop
        obtain ⟨kv', hfor⟩ := for_top (G := G) (F := F) (N := N) (A := some (false, .str t)) (I := iv) (B := frv) (C := fv') (D := cv') (E := ev') (all := es) es 0 none (lookup_self es)
        refine ⟨.ret (.ilist (trim (tabs es (topF es es 0 + 1).toNat))), [some (false, .str t), iv, some (false, .dict es), frv, fv', cv', ev', some (false, .int (topF es es 0)), kv'], ?_, rfl⟩
        rw [Ag (by rw [J9]; exact h)]
        rw [Ag (σ' := [some (false, .str t), iv, some (true, .dict es), frv, fv', cv', ev', some (false, .int 0), none]) (by first | exact rfl | simp only [J0, J1, J2, J3, J4, J5, J6, J7, J8, J9, K0, K1, K2, K3, K4, K5, K6, K7, K8, K9, Q0, Q1, Q2, Q3, Q4, Q5, Q6, Q7, Q8, Q9, U0, U1, U2, U3, U4, U5, U6, U7, U8, U9, V0, V1, V2, V3, V4, V5, V6, V7, V8, V9, W0, Cm, Co, Cs, Cr, Cf, Cn, Cy, Cu, Dm, Dj, Dl, Dk, Ct, Cq, Cp, Cc, Cg, Cz, Cw, Cv, Dt, Dn, Dp, Dq, Dr, Ds, Da, Db, Dc, Dd, Ci, Ch, Ce, Cd, Bz, Bx, By, Bu, Bq, Br, Bt, Bs, Bp, Bm, Bn, Bo, Do, Cb, Bv, Bw, Ca, Di, Cl, Ck, Cj, De, Df, Dh])]
        rw [Ag (σ' := [some (false, .str t), iv, some (false, .dict es), frv, fv', cv', ev', some (false, .int (topF es es 0)), kv']) (by
          have hit : Ff (.dict es) = some (es.map fun e => AV.int e.1) := rfl
          simp only [J2, K0, Q0, V4, V5, V6, V7, V8, freeze, hit, hfor])]
        have e1 : topF es es 0 + 1 = (((topF es es 0 + 1).toNat : Nat) : Int) := by lia
        have hle : (topF es es 0 + 1).toNat ≤ LIM := by lia
        have hcomp : Ev (Bb G F (.lit (.bool true))) (Ae G F (.get (.rd 2) (.rd 9) (.lit (.int 0)))) 1 [some (false, .str t), iv, some (false, .dict es), frv, fv', cv', ev', some (false, .int (topF es es 0)), kv'] ((List.range (topF es es 0 + 1).toNat).map fun (i : Nat) => AV.int (i : Int)) = some ((tabs es (topF es es 0 + 1).toNat).map AV.int) := by
          rw [Gs (fun v => match v with | .int k => .int ((es.lookup k).getD 0) | v => v)]
          · unfold tabs; rw [List.map_map, List.map_map]; congr 1
          · intro y _; rfl
          · intro y hy
            obtain ⟨k, _, rfl⟩ := List.mem_map.mp hy
            simp only [List.cons_append, List.nil_append, K9, Q1, V0, V3, V5, V6, getop]
        have hlr : ((List.range (topF es es 0 + 1).toNat).map fun (i : Nat) => AV.int (i : Int)).length ≤ LIM := by simpa using hle
        refine Kj ?_
        rw [K1, U1, K8, V1, V2, K9, K9, Q3, Q1, K9, V3, K7]
        simp only [V5, V6, Cy]
        rw [e1]
        simp only [Ek _ hle, Es, hlr, if_true, Int.toNat_natCast, hcomp, V9, Fb, h0]
      · cases hr
end
end Mine
end
section
open PySem
namespace Mine
set_option tactic.hygienic false
set_option autoImplicit false
section
variable {G : Str → Option AV} {F : Nat → List AV → Option Res} {N : Nat}
noncomputable def El (out : List Nat) (c : Int) : List Nat := if out = [] then (if c < 0 then out ++ [45] else out) else if c < 0 then out ++ [32, 45, 32] else out ++ [32, 43, 32]
noncomputable def Ej (k : Nat) : List Nat := if k = 0 then [] else if k = 1 then [120] else [120, 94] ++ An (k : Int)
noncomputable def Er (out : List Nat) (k : Nat) (c : Int) : List Nat :=
  if Ej k = [] then El out c ++ An (c.natAbs : Int) else if (c.natAbs : Int) = 1 then El out c ++ Ej k else El out c ++ An (c.natAbs : Int) ++ [42] ++ Ej k
noncomputable def Fa (a : List Int) : Nat → List Nat → Option (List Nat)
  | 0, out => some out
  | k + 1, out => match a[k]? with
    | some c => if c = 0 then Fa a k out else if (k : Nat).log2 < 1000 ∧ c.natAbs.log2 < 1000 ∧ (Er out k c).length ≤ LIM then Fa a k (Er out k c) else none
    | none => none
noncomputable def showS (a : List Int) : Option (List Nat) := match Fa a a.length [] with
  | some o => some (if o = [] then [48] else o)
  | none => none
theorem strNil (l : List Nat) : (l == []) = decide (l = []) := by cases l <;> rfl
theorem body_show {a : List Int} {k : Nat} {c : Int} {out : List Nat} {cv wv mv : Option (Bool × AV)} (hc : a[k]? = some c) (h0 : c ≠ 0) (hk : (k : Nat).log2 < 1000) (hcl : c.natAbs.log2 < 1000) (hl : (Er out k c).length ≤ LIM) : ∃ cv' wv' mv',
    Ah G F N b5d0 [some (false, .ilist a), some (false, .str out), some (false, .int (k : Int)), cv, wv, mv] = some (.next, [some (false, .ilist a), some (false, .str (Er out k c)), some (false, .int ((k : Int) - 1)), cv', wv', mv']) := by
  have hb0 : (c == 0) = false := by simpa using h0
  have hsl : (El out c).length ≤ LIM := by
    unfold Er at hl
    split at hl
    · simp only [List.length_append] at hl; exact Nat.le_trans (Nat.le_add_right _ _) ‹_›
    · split at hl <;> (simp only [List.length_append] at hl; (first | exact Nat.le_trans (Nat.le_add_right _ _) ‹_› | exact ZY ‹_›))
  refine ⟨some (false, .int c), some (false, .str (Ej k)), some (false, .int (c.natAbs : Int)), ?_⟩
  simp only [b5d0]
  rw [Ag (σ' := [some (false, .ilist a), some (false, .str out), some (false, .int (k : Int)), some (false, .int c), wv, mv]) (by first | exact rfl | simp only [J3, Q1, U3, V3, V5, V6, V7, V8, V9, Ay, Bh, hc])]
  have s1 : ∀ rest, Ah G F N (.seq (.ite (.cmp .eq (.rd 1) (.lit (.str []))) (.seq (.ite (.cmp .lt (.rd 3) (.lit (.int 0))) (.seq (.assign 1 (.bin .add (.rd 1) (.lit (.str [45])))) .skip) .skip) .skip) (.seq (.ite (.cmp .lt (.rd 3) (.lit (.int 0))) (.seq (.assign 1 (.bin .add (.rd 1) (.lit (.str [32, 45, 32])))) .skip) (.seq (.assign 1 (.bin .add (.rd 1) (.lit (.str [32, 43, 32])))) .skip)) .skip)) rest)
      [some (false, .ilist a), some (false, .str out), some (false, .int (k : Int)), some (false, .int c), wv, mv] = Ah G F N rest [some (false, .ilist a), some (false, .str (El out c)), some (false, .int (k : Int)), some (false, .int c), wv, mv] := fun rest => by
    refine Ag ?_
    unfold El at hsl ⊢
    by_cases ho : out = []
    · subst ho
      by_cases hn : c < 0
      · simp only [J0, J1, J3, J8, K6, K9, Q1, Q3, Q8, V3, V5, V6, V7, V8, V9, W0, Co, Cu, Dt, Dp, eq_str, beq_self_eq_true, hn, decide_true, if_true, List.length_nil, List.length_cons, List.nil_append]
        rw [if_pos (by decide)]
      · first | exact rfl | simp only [J0, J1, J8, K6, K9, Q1, Q8, V3, V5, V6, V9, W0, Co, Dt, Dp, eq_str, beq_self_eq_true, hn, decide_false, if_true, if_false]
    · have hb : (out == []) = false := by rw [strNil]; simpa using ho
      rw [if_neg ho] at hsl ⊢
      by_cases hn : c < 0
      · rw [if_pos hn] at hsl ⊢
        have : out.length + [32, 45, 32].length ≤ LIM := by simpa using hsl
        simp only [J0, J1, J3, J8, K6, K9, Q1, Q3, Q8, V3, V5, V6, V7, V8, V9, W0, Co, Cu, Dt, Dp, eq_str, hb, hn, decide_true, this, if_true]
      · rw [if_neg hn] at hsl ⊢
        have : out.length + [32, 43, 32].length ≤ LIM := by simpa using hsl
        simp only [J0, J1, J3, J8, K6, K9, Q1, Q3, Q8, V3, V5, V6, V7, V8, V9, W0, Co, Cu, Dt, Dp, eq_str, hb, hn, decide_false, this, if_true]
  have s2 : ∀ rest, Ah G F N (.seq (.ite (.cmp .eq (.rd 2) (.lit (.int 0))) (.seq (.assign 4 (.lit (.str []))) .skip) (.seq (.ite (.cmp .eq (.rd 2) (.lit (.int 1))) (.seq (.assign 4 (.lit (.str [120]))) .skip) (.seq (.assign 4 (.bin .add (.lit (.str [120, 94])) (.f1 .str (.rd 2)))) .skip)) .skip)) rest)
      [some (false, .ilist a), some (false, .str (El out c)), some (false, .int (k : Int)), some (false, .int c), wv, mv] = Ah G F N rest [some (false, .ilist a), some (false, .str (El out c)), some (false, .int (k : Int)), some (false, .int c), some (false, .str (Ej k)), mv] := fun rest => by
    refine Ag ?_
    unfold Ej
    by_cases k0 : k = 0
    · subst k0; simp only [J0, J1, J3, J8, K6, K9, Q1, Q8, V3, V5, V6, V7, V8, V9, W0, Co, Dt, eq_int, Int.natCast_zero, beq_self_eq_true, if_true]
    · have hb : ((k : Int) == 0) = false := by simp; assumption
      rw [if_neg k0]
      by_cases k1 : k = 1
      · subst k1
        simp only [J0, J1, J3, J8, K6, K9, Q1, Q8, V3, V5, V6, V7, V8, V9, W0, Co, Dt, eq_int, Int.natCast_one, beq_self_eq_true, if_true]
        rfl
      · have hb1 : ((k : Int) == 1) = false := by simp; exact mt Int.ofNat_inj.mp ‹_›
        rw [if_neg k1]
        have hlen : [120, 94].length + (An (k : Int)).length ≤ LIM := by
          have : (Ej k).length ≤ LIM := by
            have hv : Ej k ≠ [] := by unfold Ej; rw [if_neg k0, if_neg k1]; simp
            unfold Er at hl
            rw [if_neg hv] at hl
            split at hl <;> (simp only [List.length_append] at hl; exact Nat.le_trans (Nat.le_add_left _ _) ‹_›)
          unfold Ej at this
          rw [if_neg k0, if_neg k1, List.length_append] at this
          exact this
        have hlog : ((k : Int).natAbs).log2 < 1000 := by simpa using hk
        simp only [J0, J1, J3, J8, K6, K9, Q1, Q3, Q8, U2, V3, V5, V6, V7, V8, V9, W0, Co, Cu, Dt, Df, eq_int, hb, hb1, hlog, hlen, if_true]
  have s3 : Ah G F N (.seq (.assign 5 (.f1 .abs (.rd 3))) (.seq (.ite (.cmp .eq (.rd 4) (.lit (.str []))) (.seq (.assign 1 (.bin .add (.rd 1) (.f1 .str (.rd 5)))) .skip) (.seq (.ite (.cmp .eq (.rd 5) (.lit (.int 1))) (.seq (.assign 1 (.bin .add (.rd 1) (.rd 4))) .skip) (.seq (.assign 1 (.bin .add (.bin .add (.bin .add (.rd 1) (.f1 .str (.rd 5))) (.lit (.str [42]))) (.rd 4))) .skip)) .skip)) .skip))
      [some (false, .ilist a), some (false, .str (El out c)), some (false, .int (k : Int)), some (false, .int c), some (false, .str (Ej k)), mv] = some (.next, [some (false, .ilist a), some (false, .str (Er out k c)), some (false, .int (k : Int)), some (false, .int c), some (false, .str (Ej k)), some (false, .int (c.natAbs : Int))]) := by
    have hlog : ((c.natAbs : Int).natAbs).log2 < 1000 := by simpa using hcl
    unfold Er at hl ⊢
    by_cases hv : Ej k = []
    · rw [if_pos hv] at hl ⊢
      simp only [List.length_append] at hl
      simp only [hv, J0, J1, J3, J8, K6, K9, Q1, Q3, Q8, U2, V3, V5, V6, V7, V8, V9, W0, Co, Cu, Dt, Di, Df, eq_str, beq_self_eq_true, hlog, hl, if_true]
    · have hb : (Ej k == []) = false := by rw [strNil]; simpa using hv
      rw [if_neg hv] at hl ⊢
      by_cases hm : (c.natAbs : Int) = 1
      · rw [if_pos hm] at hl ⊢
        simp only [List.length_append] at hl
        have hb1 : ((c.natAbs : Int) == 1) = true := by simpa using hm
        simp only [J0, J1, J3, J8, K6, K9, Q1, Q3, Q8, U2, V3, V5, V6, V7, V8, V9, W0, Co, Cu, Dt, Di, eq_int, eq_str, hb, hb1, hl, if_true]
      · rw [if_neg hm] at hl ⊢
        simp only [List.length_append] at hl
        have hb1 : ((c.natAbs : Int) == 1) = false := by simpa using hm
        have l1 : (El out c).length + (An (c.natAbs : Int)).length ≤ LIM := by exact ZX ‹_›
        have l2 : (El out c ++ An (c.natAbs : Int)).length + [42].length ≤ LIM := by simp only [List.length_append] at hl ⊢; exact Nat.le_trans (Nat.le_add_right _ _) ‹_›
        have l3 : (El out c ++ An (c.natAbs : Int) ++ [42]).length + (Ej k).length ≤ LIM := by simp only [List.length_append] at hl ⊢; assumption
        simp only [J0, J1, J3, J8, K6, K9, Q1, Q3, Q8, U2, V3, V5, V6, V7, V8, V9, W0, Co, Cu, Dt, Di, Df, eq_int, eq_str, hb, hb1, hlog, l1, l2, l3, if_true]
  rw [Ag (σ' := [some (false, .ilist a), some (false, .str (Er out k c)), some (false, .int (k : Int)), some (false, .int c), some (false, .str (Ej k)), some (false, .int (c.natAbs : Int))]) (by
    rw [J8]
    have ht : Bb G F (.cmp .ne (.rd 3) (.lit (.int 0))) [some (false, .ilist a), some (false, .str out), some (false, .int (k : Int)), some (false, .int c), wv, mv] = some true := by simp only [K6, K9, Q1, Q8, V3, V5, V6, V9, W0, Co, Dn, eq_int, hb0, Bool.not_false]
    rw [ht]
    simp only
    rw [s1, s2, s3])]
  simp only [J0, J1, J3, K9, Q1, Q3, V3, V5, V6, V7, V8, Ct]
set_option tactic.hygienic true in
theorem Kk {a : List Int} : ∀ (m : Nat) (out r : List Nat) (cv wv mv : Option (Bool × AV)) (k : Nat), m ≤ a.length → m < k → Fa a m out = some r → ∃ cv' wv' mv',
    Dz (Bb G F b5c0) (Ah G F N b5d0) k [some (false, .ilist a), some (false, .str out), some (false, .int ((m : Int) - 1)), cv, wv, mv] = some (.next, [some (false, .ilist a), some (false, .str r), some (false, .int (-1)), cv', wv', mv'])
  | m, out, r, cv, wv, mv, 0, _, h, _ => by exact absurd ‹_› (Nat.not_lt_zero _)
  | 0, out, r, cv, wv, mv, k + 1, _, _, h => by
    simp only [Fa, Option.some.injEq] at h
    subst h
    exact ⟨cv, wv, mv, Fo (by simp only [b5c0, K6, K9, Q1, Q8, V3, V5, V6, V9, W0, Co, Ds]; rfl)⟩
  | m + 1, out, r, cv, wv, mv, k + 1, hm, hk, h => by
    simp only [Fa] at h
    have e1 : ((m + 1 : Nat) : Int) - 1 = (m : Int) := by lia
    have hd : decide ((m : Int) ≥ 0) = true := by simp
    rw [e1]
    have hcnd : ∀ cv wv mv out, Bb G F b5c0 [some (false, .ilist a), some (false, .str out), some (false, .int (m : Int)), cv, wv, mv] = some true := fun cv wv mv out => by simp only [b5c0, K6, K9, Q1, Q8, V3, V5, V6, V9, W0, Co, Ds, hd]
    split at h
    · rename_i c hc
      split at h
      · rename_i h0
        subst h0
        obtain ⟨cv', wv', mv', ih⟩ := Kk m out r (some (false, .int 0)) wv mv k (by exact Nat.le_of_succ_le ‹_›) (by exact Nat.lt_of_succ_lt_succ ‹_›) h
        refine ⟨cv', wv', mv', ?_⟩
        rw [← ih]
        refine Hh (hcnd _ _ _ _) ?_
        simp only [b5d0, J0, J1, J3, J8, K6, K9, Q1, Q3, Q8, U3, V3, V5, V6, V7, V8, V9, W0, Co, Ct, Dn, Ay, Bh, hc, eq_int, beq_self_eq_true, Bool.not_true]
      · rename_i h0
        split at h
        · rename_i hcs
          obtain ⟨cv₁, wv₁, mv₁, hb⟩ := body_show (G := G) (F := F) (N := N) (cv := cv) (wv := wv) (mv := mv) hc h0 hcs.1 hcs.2.1 hcs.2.2
          obtain ⟨cv', wv', mv', ih⟩ := Kk m _ r cv₁ wv₁ mv₁ k (by exact Nat.le_of_succ_le ‹_›) (by exact Nat.lt_of_succ_lt_succ ‹_›) h
          exact ⟨cv', wv', mv', by rw [← ih]; exact Hh (hcnd _ _ _ _) hb⟩
        · cases h
    · cases h
set_option tactic.hygienic true in
theorem run_show (a : List Int) (r : List Nat) (hr : showS a = some r) (hN : a.length < N) : ∃ σ', Ah G F N b5.body [some (false, .ilist a), none, none, none, none, none] = some (.ret (.str r), σ') := by
  unfold showS at hr
  split at hr
  · rename_i o ho
    cases hr
    obtain ⟨cv', wv', mv', h⟩ := Kk (G := G) (F := F) (N := N) a.length [] o none none none N (Nat.le_refl _) hN ho
    refine ⟨[some (false, .ilist a), some (false, .str o), some (false, .int (-1)), cv', wv', mv'], ?_⟩
    by_cases h0 : o = []
    · subst h0
      simp only [b5, J1, J3, J8, J9, K1, K6, K9, Q1, Q3, Q8, U2, V3, V5, V6, V7, V8, V9, W0, Co, Ct, Dt, Bv, h, eq_str, beq_self_eq_true, if_true]
    · have hb : (o == []) = false := by rw [strNil]; simpa using h0
      simp only [b5, J0, J1, J3, J8, J9, K1, K6, K9, Q0, Q1, Q3, Q8, U2, V3, V4, V5, V6, V7, V8, V9, W0, Co, Ct, Dt, Bv, h, eq_str, hb, h0, if_false]
  · cases hr
end
end Mine
end
section
open PySem
namespace Mine
set_option tactic.hygienic false
set_option autoImplicit false
section
variable {G : Str → Option AV} {F : Nat → List AV → Option Res} {N : Nat}
noncomputable def Hm (grade : Int) (gap zero : List Nat) : List Nat := if grade ≠ 1 ∨ zero ≠ [] then [120] ++ gap ++ [94] ++ gap ++ zero ++ An grade else [120]
noncomputable def Ep (size grade : Int) (gap zero : List Nat) : List Nat :=
  if grade = 0 ∧ zero = [] then An size else if size = 1 ∧ zero = [] then Hm grade gap zero else zero ++ An size ++ gap ++ [42] ++ gap ++ Hm grade gap zero
noncomputable def Gu (size grade : Int) (gap zero : List Nat) : Bool := decide (gap.length ≤ 10) && decide (zero.length ≤ 10) && decide (size.natAbs.log2 < 1000) && decide (grade.natAbs.log2 < 1000) && decide ((An size).length ≤ 1000) && decide ((An grade).length ≤ 1000)
theorem name_len {grade : Int} {gap zero : List Nat} (hg : gap.length ≤ 10) (hz : zero.length ≤ 10) (hd : (An grade).length ≤ 1000) : (Hm grade gap zero).length ≤ 1100 := by
  unfold Hm
  split
  · simp only [List.length_append, List.length_cons, List.length_nil]; with_reducible exact Nat.le_trans (by repeat' first | assumption | apply Nat.add_le_add | exact Nat.le_refl _) (by decide)
  · simp
theorem body_len {size grade : Int} {gap zero : List Nat} (h : Gu size grade gap zero = true) : (Ep size grade gap zero).length ≤ 2200 := by
  unfold Gu at h
  simp only [Bool.and_eq_true, decide_eq_true_eq] at h
  obtain ⟨⟨⟨⟨⟨h1, h2⟩, h3⟩, h4⟩, h5⟩, h6⟩ := h
  have := name_len (grade := grade) h1 h2 h6
  unfold Ep
  split
  · with_reducible exact Nat.le_trans ‹_› (by decide)
  · split
    · with_reducible exact Nat.le_trans ‹_› (by decide)
    · simp only [List.length_append, List.length_cons, List.length_nil]; with_reducible exact Nat.le_trans (by repeat' first | assumption | apply Nat.add_le_add | exact Nat.le_refl _) (by decide)
theorem run_body {size grade : Int} {gap zero : List Nat} (h : Gu size grade gap zero = true) : ∃ σ', Ah G F N b23.body [some (false, .int size), some (false, .int grade), some (false, .str gap), some (false, .str zero), none] = some (.ret (.str (Ep size grade gap zero)), σ') := by
  have hL : LIM = 1048576 := rfl
  unfold Gu at h
  simp only [Bool.and_eq_true, decide_eq_true_eq] at h
  obtain ⟨⟨⟨⟨⟨h1, h2⟩, h3⟩, h4⟩, h5⟩, h6⟩ := h
  refine ⟨[some (false, .int size), some (false, .int grade), some (false, .str gap), some (false, .str zero), some (false, .str (Hm grade gap zero))], ?_⟩
  have hnl := name_len (grade := grade) h1 h2 h6
  have hname : ∀ rest, Ah G F N (.seq (.assign 4 (.lit (.str [120]))) (.seq (.ite (.or (.cmp .ne (.rd 1) (.lit (.int 1))) (.cmp .ne (.rd 3) (.lit (.str [])))) (.seq (.assign 4 (.bin .add (.bin .add (.bin .add (.bin .add (.bin .add (.lit (.str [120])) (.rd 2)) (.lit (.str [94]))) (.rd 2)) (.rd 3)) (.f1 .str (.rd 1)))) .skip) .skip) rest))
      [some (false, .int size), some (false, .int grade), some (false, .str gap), some (false, .str zero), none] = Ah G F N rest [some (false, .int size), some (false, .int grade), some (false, .str gap), some (false, .str zero), some (false, .str (Hm grade gap zero))] := fun rest => by
    rw [Ag (σ' := [some (false, .int size), some (false, .int grade), some (false, .str gap), some (false, .str zero), some (false, .str [120])]) (by first | exact rfl | simp only [J0, J1, J2, J3, J4, J5, J6, J7, J8, J9, K0, K1, K2, K3, K4, K5, K6, K7, K8, K9, Q0, Q1, Q2, Q3, Q4, Q5, Q6, Q7, Q8, Q9, U0, U1, U2, U3, U4, U5, U6, U7, U8, U9, V0, V1, V2, V3, V4, V5, V6, V7, V8, V9, W0, Cm, Co, Cs, Cr, Cf, Cn, Cy, Cu, Dm, Dj, Dl, Dk, Ct, Cq, Cp, Cc, Cg, Cz, Cw, Cv, Dt, Dn, Dp, Dq, Dr, Ds, Da, Db, Dc, Dd, Ci, Ch, Ce, Cd, Bz, Bx, By, Bu, Bq, Br, Bt, Bs, Bp, Bm, Bn, Bo, Do, Cb, Bv, Bw, Ca, Di, Cl, Ck, Cj, De, Df, Dh])]
    refine Ag ?_
    have l1 : [120].length + gap.length ≤ LIM := by simp only [List.length_cons, List.length_nil]; with_reducible exact Nat.le_trans (by repeat' first | assumption | apply Nat.add_le_add | exact Nat.le_refl _) (by decide)
    have l2 : ([120] ++ gap).length + [94].length ≤ LIM := by simp only [List.length_append, List.length_cons, List.length_nil]; with_reducible exact Nat.le_trans (by repeat' first | assumption | apply Nat.add_le_add | exact Nat.le_refl _) (by decide)
    have l3 : ([120] ++ gap ++ [94]).length + gap.length ≤ LIM := by simp only [List.length_append, List.length_cons, List.length_nil]; with_reducible exact Nat.le_trans (by repeat' first | assumption | apply Nat.add_le_add | exact Nat.le_refl _) (by decide)
    have l4 : ([120] ++ gap ++ [94] ++ gap).length + zero.length ≤ LIM := by simp only [List.length_append, List.length_cons, List.length_nil]; with_reducible exact Nat.le_trans (by repeat' first | assumption | apply Nat.add_le_add | exact Nat.le_refl _) (by decide)
    have l5 : ([120] ++ gap ++ [94] ++ gap ++ zero).length + (An grade).length ≤ LIM := by simp only [List.length_append, List.length_cons, List.length_nil]; with_reducible exact Nat.le_trans (by repeat' first | assumption | apply Nat.add_le_add | exact Nat.le_refl _) (by decide)
    unfold Hm
    by_cases g1 : grade = 1
    · by_cases z0 : zero = []
      · subst g1 z0
        simp only [J0, J8, K6, K9, Q1, Q7, Q8, V3, V5, V6, V9, W0, Co, Dn, eq_int, eq_str, beq_self_eq_true, Bool.not_true, ne_eq, not_true_eq_false, or_self, if_false]
      · have hb : (zero == []) = false := by rw [strNil]; simpa using z0
        have hb1 : (grade == 1) = true := by simpa using g1
        rw [if_pos (.inr z0)]
        simp only [J0, J1, J3, J8, K6, K9, Q1, Q3, Q7, Q8, U2, V3, V5, V6, V7, V8, V9, W0, Co, Cu, Dn, Df, eq_int, eq_str, hb1, Bool.not_true, hb, Bool.not_false, l1, l2, l3, l4, l5, h4, if_true]
    · have hb1 : (grade == 1) = false := by simpa using g1
      rw [if_pos (.inl g1)]
      simp only [J0, J1, J3, J8, K6, K9, Q1, Q3, Q7, Q8, U2, V3, V5, V6, V7, V8, V9, W0, Co, Cu, Dn, Df, eq_int, hb1, Bool.not_false, l1, l2, l3, l4, l5, h4, if_true]
  simp only [b23]
  rw [hname]
  generalize hnm : Hm grade gap zero = nm at *
  have l1 : zero.length + (An size).length ≤ LIM := by with_reducible exact Nat.le_trans (by repeat' first | assumption | apply Nat.add_le_add | exact Nat.le_refl _) (by decide)
  have l2 : (zero ++ An size).length + gap.length ≤ LIM := by simp only [List.length_append]; lia
  have l3 : (zero ++ An size ++ gap).length + [42].length ≤ LIM := by simp only [List.length_append, List.length_cons, List.length_nil]; lia
  have l4 : (zero ++ An size ++ gap ++ [42]).length + gap.length ≤ LIM := by simp only [List.length_append, List.length_cons, List.length_nil]; lia
  have l5 : (zero ++ An size ++ gap ++ [42] ++ gap).length + nm.length ≤ LIM := by simp only [List.length_append, List.length_cons, List.length_nil]; lia
  unfold Ep
  rw [hnm]
  by_cases z0 : zero = []
  · subst z0
    by_cases g0 : grade = 0
    · have hb : (grade == 0) = true := by simpa using g0
      rw [if_pos ⟨g0, rfl⟩]
      simp only [J1, J8, K1, K6, K9, Q1, Q6, Q8, U2, V3, V5, V6, V9, W0, Co, Dt, Df, eq_int, eq_str, hb, beq_self_eq_true, h3, if_true]
    · have hb : (grade == 0) = false := by simpa using g0
      rw [if_neg (by simp [g0])]
      by_cases s1 : size = 1
      · have hs : (size == 1) = true := by simpa using s1
        rw [if_pos ⟨s1, rfl⟩]
        simp only [J0, J1, J8, K1, K6, K9, Q0, Q1, Q6, Q8, V3, V4, V5, V6, V9, W0, Co, Dt, eq_int, eq_str, hb, hs, beq_self_eq_true]
      · have hs : (size == 1) = false := by simpa using s1
        rw [if_neg (by simp [s1])]
        simp only [J0, J1, J8, K1, K6, K9, Q1, Q3, Q6, Q8, U2, V3, V5, V6, V9, W0, Co, Cu, Dt, Df, eq_int, hb, hs, h3, l1, l2, l3, l4, l5, if_true]
  · have hz : (zero == []) = false := by rw [strNil]; simpa using z0
    rw [if_neg (by simp [z0]), if_neg (by simp [z0])]
    by_cases g0 : grade = 0
    · have hb : (grade == 0) = true := by simpa using g0
      by_cases s1 : size = 1
      · have hs : (size == 1) = true := by simpa using s1
        simp only [J0, J1, J8, K1, K6, K9, Q1, Q3, Q6, Q8, U2, V3, V5, V6, V9, W0, Co, Cu, Dt, Df, eq_int, eq_str, hb, hz, hs, h3, l1, l2, l3, l4, l5, if_true]
      · have hs : (size == 1) = false := by simpa using s1
        simp only [J0, J1, J8, K1, K6, K9, Q1, Q3, Q6, Q8, U2, V3, V5, V6, V9, W0, Co, Cu, Dt, Df, eq_int, eq_str, hb, hz, hs, h3, l1, l2, l3, l4, l5, if_true]
    · have hb : (grade == 0) = false := by simpa using g0
      by_cases s1 : size = 1
      · have hs : (size == 1) = true := by simpa using s1
        simp only [J0, J1, J8, K1, K6, K9, Q1, Q3, Q6, Q8, U2, V3, V5, V6, V9, W0, Co, Cu, Dt, Df, eq_int, eq_str, hb, hz, hs, h3, l1, l2, l3, l4, l5, if_true]
      · have hs : (size == 1) = false := by simpa using s1
        simp only [J0, J1, J8, K1, K6, K9, Q1, Q3, Q6, Q8, U2, V3, V5, V6, V9, W0, Co, Cu, Dt, Df, eq_int, hb, hs, h3, l1, l2, l3, l4, l5, if_true]
noncomputable def encT (p : Int × Int) : AV := .tup [.int p.1, .int p.2]
noncomputable def Eu : List (Int × Int) → AV
  | [] => .ilist []
  | p :: r => .list ((p :: r).map encT)
noncomputable def Fc : List (List Nat) → AV
  | [] => .ilist []
  | p :: r => .list ((p :: r).map AV.str)
noncomputable def Aq (space gap zero : List Nat) (p : Int × Int) : List Nat := [if p.1 < 0 then 45 else 43] ++ space ++ Ep (p.1.natAbs : Int) p.2 gap zero
noncomputable def Hi (ts : List (Int × Int)) (space gap zero : List Nat) : Option (List (List Nat)) :=
  if space.length ≤ 10 ∧ ts.length ≤ 1000 ∧ ts.all (fun p => Gu (p.1.natAbs : Int) p.2 gap zero) then some (ts.map (Aq space gap zero)) else none
theorem items_encTs (ts : List (Int × Int)) : Ff (Eu ts) = some (ts.map encT) := by cases ts <;> rfl
theorem append_st (l : List (List Nat)) (s : List Nat) (h : l.length < LIM) : Gg (Fc l) (.str s) = some (Fc (l ++ [s])) := by
  cases l with
  | nil => simp only [Fc, Gg, List.length_nil]; rw [if_pos (by decide)]; rfl
  | cons q r =>
    simp only [Fc, Gg, List.length_map]
    rw [if_pos h]
    simp only [List.cons_append, List.map_cons, List.map_append, List.map_nil]
theorem for_pieces {space gap zero : List Nat} {T : Option (Bool × AV)} (h23 : ∀ size grade, Gu size grade gap zero = true → F 23 [.int size, .int grade, .str gap, .str zero] = some (.val (.str (Ep size grade gap zero)))) (hsp : space.length ≤ 10) :
    ∀ (ts : List (Int × Int)) (out : List (List Nat)) (cv gv sv : Option (Bool × AV)), (∀ p ∈ ts, Gu (p.1.natAbs : Int) p.2 gap zero = true) → out.length + ts.length ≤ LIM → ∃ cv' gv' sv',
    Dy [5, 6] (Ah G F N b24d0) (ts.map encT) [T, some (false, .str space), some (false, .str gap), some (false, .str zero), some (true, Fc out), cv, gv, sv] = some (.next, [T, some (false, .str space), some (false, .str gap), some (false, .str zero), some (true, Fc (out ++ ts.map (Aq space gap zero))), cv', gv', sv'])
  | [], out, cv, gv, sv, _, _ => ⟨cv, gv, sv, by simp [f_nil]⟩
  | (c, g) :: ts, out, cv, gv, sv, hb, hl => by
    have hL : LIM = 1048576 := rfl
    obtain ⟨cv', gv', sv', ih⟩ := for_pieces (T := T) h23 hsp ts (out ++ [Aq space gap zero (c, g)]) (some (false, .int c)) (some (false, .int g)) (some (false, .str [if c < 0 then 45 else 43])) (fun p hp => hb p (List.mem_cons_of_mem _ hp)) (by simp only [List.length_append, List.length_cons, List.length_nil] at hl ⊢; exact ZW ‹_›)
    refine ⟨cv', gv', sv', ?_⟩
    have e0 : out ++ ((c, g) :: ts).map (Aq space gap zero) = (out ++ [Aq space gap zero (c, g)]) ++ ts.map (Aq space gap zero) := by simp
    rw [List.map_cons, e0, ← ih]
    refine f_next2 ?_
    have hbk := hb (c, g) List.mem_cons_self
    have h23' := h23 _ _ hbk
    have hbl : (Ep (c.natAbs : Int) g gap zero).length ≤ 2200 := body_len hbk
    have hap := append_st out (Aq space gap zero (c, g)) (by simp only [List.length_cons] at hl; exact ZV ‹_›)
    have l1 : ∀ x : Nat, [x].length + space.length ≤ LIM := fun x => by simp only [List.length_cons, List.length_nil]; with_reducible exact Nat.le_trans (by repeat' first | assumption | apply Nat.add_le_add | exact Nat.le_refl _) (by decide)
    have l2 : ∀ x : Nat, ([x] ++ space).length + (Ep (c.natAbs : Int) g gap zero).length ≤ LIM := fun x => by simp only [List.length_append, List.length_cons, List.length_nil]; with_reducible exact Nat.le_trans (by repeat' first | assumption | apply Nat.add_le_add | exact Nat.le_refl _) (by decide)
    unfold Aq at hap ⊢
    by_cases hn : c < 0
    · simp only [hn, if_true] at hap ⊢
      simp only [b24d0, J0, J1, J3, J7, J8, K6, K7, K8, K9, Q0, Q1, Q3, Q8, U1, U2, V3, V4, V5, V6, V7, V8, V9, W0, Co, Cu, Dp, Di, hn, decide_true, l1, l2, if_true, h23', hap]
    · simp only [hn, if_false] at hap ⊢
      simp only [b24d0, J0, J1, J3, J7, J8, K6, K7, K8, K9, Q0, Q1, Q3, Q8, U1, U2, V3, V4, V5, V6, V7, V8, V9, W0, Co, Cu, Dp, Di, hn, decide_false, l1, l2, if_true, h23', hap]
set_option tactic.hygienic true in
theorem run_pieces {ts : List (Int × Int)} {space gap zero : List Nat} {r : List (List Nat)} (h23 : ∀ size grade, Gu size grade gap zero = true → F 23 [.int size, .int grade, .str gap, .str zero] = some (.val (.str (Ep size grade gap zero)))) (hr : Hi ts space gap zero = some r) :
    ∃ σ', Ah G F N b24.body [some (false, Eu ts), some (false, .str space), some (false, .str gap), some (false, .str zero), none, none, none, none] = some (.ret (Fc r), σ') := by
  have hL : LIM = 1048576 := rfl
  unfold Hi at hr
  split at hr <;> cases hr
  rename_i hc
  obtain ⟨hs, hl, hall⟩ := hc
  obtain ⟨cv', gv', sv', h⟩ := for_pieces (G := G) (N := N) (T := some (false, Eu ts)) h23 hs ts [] none none none (fun p hp => List.all_eq_true.mp hall p hp) (by simp only [List.length_nil]; with_reducible exact Nat.le_trans (by repeat' first | assumption | apply Nat.add_le_add | exact Nat.le_refl _) (by decide))
  refine ⟨[some (false, Eu ts), some (false, .str space), some (false, .str gap), some (false, .str zero), some (false, Fc (ts.map (Aq space gap zero))), cv', gv', sv'], ?_⟩
  have h' : Dy [5, 6] (Ah G F N b24d0) (ts.map encT) [some (false, Eu ts), some (false, .str space), some (false, .str gap), some (false, .str zero), some (true, .ilist []), none, none, none] = some (.next, [some (false, Eu ts), some (false, .str space), some (false, .str gap), some (false, .str zero), some (true, Fc (ts.map (Aq space gap zero))), cv', gv', sv']) := h
  simp only [b24, J1, J2, J5, K0, K1, K7, Q0, V4, V5, V6, V7, V8, List.length_nil, Nat.zero_le, if_true, mkL0, items_encTs, h', freeze]
theorem join_st {sep : List Nat} {l : List (List Nat)} (h : (l.map List.length).sum + l.length * sep.length ≤ LIM) : Hu (.str sep) (Fc l) = some (.str (Au sep l)) := by
  have hs : ∀ l : List (List Nat), Jj (l.map AV.str) = some l := by
    intro l
    induction l with
    | nil => rfl
    | cons a r ih => rw [List.map_cons, so_c, ih]; rfl
  cases l with
  | nil =>
    simp only [Hu, Fc]
    rw [if_pos h]
  | cons a r =>
    simp only [Hu, Fc, hs]
    rw [if_pos h]
noncomputable def Aw (a : List Int) : List (Int × Int) := ((List.range a.length).reverse.filter fun n => a.getD n 0 != 0).map fun (n : Nat) => (a.getD n 0, (n : Int))
noncomputable def Km (a : List Int) : Option (List Nat) := if LIM < a.length then none else match Hi (Aw a) [32] [] [] with
  | some ps => if (ps.map List.length).sum + ps.length * 1 ≤ LIM then
      some (if Au [32] ps = [] then [48] else if (Au [32] ps)[0]? = some 45 then [45] ++ (Au [32] ps).drop 2 else (Au [32] ps).drop 2) else none
  | none => none
theorem range_down (n : Nat) (h : n ≤ LIM) : (if (((-1 : Int) = 1) ∨ True) ∧ -(LIM : Int) ≤ (n : Int) - 1 ∧ (n : Int) - 1 ≤ LIM ∧ -(LIM : Int) ≤ -1 ∧ (-1 : Int) ≤ LIM then some (AV.ilist (Ex ((n : Int) - 1) (-1) (-1))) else none) = some (.ilist ((List.range n).reverse.map fun (i : Nat) => (i : Int))) := by
  have hL : LIM = 1048576 := rfl
  rw [if_pos ⟨.inr trivial, by lia, by lia, by decide, by decide⟩]
  unfold Ex Builtin.Range.rangeSize
  simp only [show ¬ ((-1 : Int) > 0) by decide, if_false, Int.neg_neg, Int.ediv_one]
  have : (if (n : Int) - 1 > -1 then (n : Int) - 1 - -1 - 1 + 1 else 0).toNat = n := by split <;> lia
  rw [this]
  congr 2
  apply List.ext_getElem
  · simp
  · intro i h1 h2
    simp only [List.getElem_map, List.getElem_range, List.getElem_reverse, List.length_range] at *
    simp only [List.length_map, List.length_range] at h1
    lia
set_option tactic.hygienic true in
theorem run_shown (a : List Int) (r : List Nat) (h24 : ∀ ts space gap zero r, Hi ts space gap zero = some r → F 24 [Eu ts, .str space, .str gap, .str zero] = some (.val (Fc r))) (hr : Km a = some r) :
    ∃ σ', Ah G F N b25.body [some (false, .ilist a), none] = some (.ret (.str r), σ') := by
  have hL : LIM = 1048576 := rfl
  unfold Km at hr
  split at hr
  · cases hr
  · rename_i hla
    split at hr
    · rename_i ps hps
      split at hr <;> cases hr
      rename_i hjl
      have h24' := h24 _ _ _ _ _ hps
      have hjoin := join_st (sep := [32]) (l := ps) (by simpa using hjl)
      generalize hjn : Au [32] ps = line at *
      refine ⟨[some (false, .ilist a), some (false, .str line)], ?_⟩
      have hcomp : Ev (Bb G F (.cmp .ne (.idx (.rd 0) (.rd 2)) (.lit (.int 0)))) (Ae G F (.tup (.cons (.idx (.rd 0) (.rd 2)) (.cons (.var 2) .nil)))) 1 [some (false, .ilist a), none] ((List.range a.length).reverse.map fun (i : Nat) => AV.int (i : Int)) = some ((Aw a).map encT) := by
        rw [Ii (fun v => match v with | .int n => a.getD n.toNat 0 != 0 | _ => false) (fun v => match v with | .int n => .tup [.int (a.getD n.toNat 0), .int n] | v => v)]
        · unfold Aw
          rw [List.filter_map, List.map_map, List.map_map]
          congr 1
        · intro y hy
          obtain ⟨n, hn, rfl⟩ := List.mem_map.mp hy
          have hn' : n < a.length := List.mem_range.mp (List.mem_reverse.mp hn)
          have hx := getD_some hn'
          simp only [List.cons_append, List.nil_append, K6, K9, Q1, Q8, U3, V3, V5, V6, V9, W0, Co, Dn, Ay, Bh, hx, eq_int, Int.toNat_natCast]
          rfl
        · intro y hy _
          obtain ⟨n, hn, rfl⟩ := List.mem_map.mp hy
          have hn' : n < a.length := List.mem_range.mp (List.mem_reverse.mp hn)
          have hx := getD_some hn'
          simp only [List.cons_append, List.nil_append, K7, K8, Q0, Q1, U3, U7, V3, V4, V5, V6, V9, Ay, Bh, hx, Int.toNat_natCast]
          rw [if_pos (len2 _ _)]
      have hmk : mkL ((Aw a).map encT) = Eu (Aw a) := by
        cases Aw a with
        | nil => rfl
        | cons p r => rfl
      have hlr : ((List.range a.length).reverse.map fun (i : Nat) => AV.int (i : Int)).length ≤ LIM := by simp only [List.length_map, List.length_reverse, List.length_range]; exact Nat.le_of_not_lt ‹_›
      have hmn : ((List.range a.length).reverse.map fun (i : Nat) => (i : Int)).map AV.int = (List.range a.length).reverse.map fun (i : Nat) => AV.int (i : Int) := map_nat _
      simp only [b25]
      rw [Ag (σ' := [some (false, .ilist a), some (false, .str line)]) (by
        rw [J3, U9, U1, K8, V1, V2]
        simp only [Q3, U2, Q1, K9, Q4, V3, V5, Bv, Ct, range_down a.length (by exact Nat.le_of_not_lt ‹_›), Bj, hmn, hlr, if_true, hcomp, V9, hmk, K8, K7, h24', hjoin, V7, V8])]
      by_cases h0 : line = []
      · subst h0
        simp only [J1, J8, K1, K6, K9, Q1, Q8, V3, V5, V6, V9, W0, Co, Dt, eq_str, beq_self_eq_true, if_true]
      · have hb : (line == []) = false := by rw [strNil]; simpa using h0
        rw [if_neg h0]
        cases hl0 : line with
        | nil => exact absurd hl0 h0
        | cons ch rest =>
          rw [hl0] at hb
          have hlen : (Au [32] ps).length ≤ LIM := by
            have := Jz [32] ps
            simp only [List.length_cons, List.length_nil] at this
            with_reducible exact Nat.le_trans ‹_› ‹_›
          rw [hjn, hl0] at hlen
          by_cases h45 : ch = 45
          · subst h45
            have hdl : [45].length + ((45 :: rest).drop 2).length ≤ LIM := by simp only [List.length_drop, List.length_cons, List.length_nil] at hlen ⊢; lia
            simp only [J0, J1, J8, K1, K6, K9, Q1, Q3, Q8, U3, U5, V3, V5, V6, V9, W0, Co, Cu, Dt, eq_str, hb, Ay, getI, Int.toNat_zero, V5, beq_self_eq_true, Ju, if_true, show (0 : Int) ≤ 2 by decide, show (0 : Int) ≤ 0 by decide, show ((2 : Int).toNat) = 2 by decide, hdl]
          · have hb45 : ([ch] == [45]) = false := by simpa using h45
            have hne : ¬ (some ch = some 45) := by simpa using h45
            simp only [J0, J1, J8, K1, K6, K9, Q1, Q8, U3, U5, V3, V5, V6, V9, W0, Co, Dt, eq_str, hb, Ay, getI, Int.toNat_zero, V5, hb45, Ju, if_true, show (0 : Int) ≤ 2 by decide, show (0 : Int) ≤ 0 by decide, show ((2 : Int).toNat) = 2 by decide, hne, if_false]
    · cases hr
end
end Mine
end
section
open PySem
namespace Mine
set_option tactic.hygienic false
set_option autoImplicit false
section
variable {G : Str → Option AV} {F : Nat → List AV → Option Res} {N : Nat}
theorem strs_map (l : List (List Nat)) : Jj (l.map AV.str) = some l := by
  induction l with
  | nil => rfl
  | cons a r ih => rw [List.map_cons, so_c, ih]; rfl
theorem join_list {sep : List Nat} {l : List (List Nat)} (h : (l.map List.length).sum + l.length * sep.length ≤ LIM) : Hu (.str sep) (.list (l.map AV.str)) = some (.str (Au sep l)) := by
  simp only [Hu, strs_map]; rw [if_pos h]
noncomputable def Ed (a : List Int) : List (Int × Int) := (List.range a.length).map fun (n : Nat) => (a.getD n 0, (n : Int))
noncomputable def Aj (a : List Int) (m h : Int) : List (Int × Int) := [(m, h)] ++ Ed a ++ [(-m, h)]
noncomputable def Iy (ps : List (List Nat)) (gap : List Nat) (lead m : Int) : List Nat := if lead = 1 ∧ m ≥ 0 then (Au gap ps).drop 1 else Au gap ps
noncomputable def damOf (ps : List (List Nat)) (gap b : List Nat) (pl : Nat) (cut : Int) : List Nat := if cut = 1 then gap else Au gap (ps.take pl) ++ [43] ++ b ++ (if cut > 1 then Au gap (ps.drop pl) else [])
noncomputable def Hp (place : Int) (n : Nat) : Nat := (1 + place.fmod ((n : Int) - 1)).toNat
structure TextsOk (a : List Int) (gap zero : List Nat) (m h lead : Int) (b : List Nat) (place cut : Int) (ps : List (List Nat)) : Prop where
  hp : Hi (Aj a m h) gap gap zero = some ps
  la : a.length ≤ 100
  lg : gap.length ≤ 10
  lb : b.length ≤ 10
  lp : (ps.map List.length).sum ≤ 100000
  good : Hg (gap ++ Iy ps gap lead m ++ gap) = some (some a)
  bad : Hg (damOf ps gap b (Hp place ps.length) cut) = some none
theorem Ik (ps : List (List Nat)) (k : Nat) : ((ps.take k).map List.length).sum ≤ (ps.map List.length).sum ∧ ((ps.drop k).map List.length).sum ≤ (ps.map List.length).sum := by
  have : (ps.map List.length).sum = ((ps.take k).map List.length).sum + ((ps.drop k).map List.length).sum := by
    rw [← List.sum_append, ← List.map_append, List.take_append_drop]
  lia
theorem run_texts (h24 : ∀ ts space gap zero r, Hi ts space gap zero = some r → F 24 [Eu ts, .str space, .str gap, .str zero] = some (.val (Fc r))) (h12 : ∀ t r, Hg t = some r → F 12 [.str t] = some (exR r)) {bads : List (List Nat)} (hG : G (Str.ofString "_law_BAD") = some (.tup (bads.map .str)))
    {a : List Int} {gap zero : List Nat} {m h lead place cut : Int} {bi : Nat} {b : List Nat} {ps : List (List Nat)} (hb : bads[bi]? = some b) (hok : TextsOk a gap zero m h lead b place cut ps) :
    ∃ σ', Ah G F N b26.body [some (false, .ilist a), some (false, .str gap), some (false, .str zero), some (false, .int m), some (false, .int h), some (false, .int lead), some (false, .int (bi : Int)), some (false, .int place), some (false, .int cut), none, none, none, none, none] = some (.ret (.bool true), σ') := by
  have hL : LIM = 1048576 := rfl
  obtain ⟨hps, la, lg, lb, lp, good, bad⟩ := hok
  have hpl : ps.length = a.length + 2 := by
    unfold Hi at hps
    split at hps <;> cases hps
    simp [Aj, Ed]
  have hpcons : ∃ p r, ps = p :: r := by
    cases hp : ps with
    | nil => rw [hp] at hpl; simp at hpl
    | cons p r => exact ⟨p, r, rfl⟩
  have hencs : Fc ps = .list (ps.map AV.str) := by obtain ⟨p, r, rfl⟩ := hpcons; rfl
  have hjl : ∀ l : List (List Nat), (l.map List.length).sum ≤ 100000 → l.length ≤ 102 → (l.map List.length).sum + l.length * gap.length ≤ LIM := fun l h1 h2 => by
    have : l.length * gap.length ≤ 102 * 10 := Nat.mul_le_mul h2 lg
    with_reducible exact Nat.le_trans (by repeat' first | assumption | apply Nat.add_le_add | exact Nat.le_refl _) (by decide)
  have hjlen : ∀ l : List (List Nat), (l.map List.length).sum ≤ 100000 → l.length ≤ 102 → (Au gap l).length ≤ 101020 := fun l h1 h2 => by
    have := Jz gap l
    have : l.length * gap.length ≤ 102 * 10 := Nat.mul_le_mul h2 lg
    lia
  -- the terms
  have hcomp : Ev (Bb G F (.lit (.bool true))) (Ae G F (.tup (.cons (.idx (.rd 0) (.rd 14)) (.cons (.var 14) .nil)))) 1 [some (false, .ilist a), some (false, .str gap), some (false, .str zero), some (false, .int m), some (false, .int h), some (false, .int lead), some (false, .int (bi : Int)), some (false, .int place), some (false, .int cut), none, none, none, none, none]
      ((List.range a.length).map fun (i : Nat) => AV.int (i : Int)) = some ((Ed a).map encT) := by
    rw [Gs (fun v => match v with | .int n => .tup [.int (a.getD n.toNat 0), .int n] | v => v)]
    · unfold Ed; rw [List.map_map, List.map_map]; congr 1
    · intro y _; rfl
    · intro y hy
      obtain ⟨n, hn, rfl⟩ := List.mem_map.mp hy
      have hx := getD_some (List.mem_range.mp hn)
      simp only [List.cons_append, List.nil_append, K7, K8, Q0, Q1, U3, U7, V3, V4, V5, V6, V9, Ay, Bh, hx, Int.toNat_natCast]
      rw [if_pos (len2 _ _)]
  have hlr : ((List.range a.length).map fun (i : Nat) => AV.int (i : Int)).length ≤ LIM := by simp only [List.length_map, List.length_range]; with_reducible exact Nat.le_trans ‹_› (by decide)
  have hmk : mkL ((Ed a).map encT) = Eu (Ed a) := by cases Ed a <;> rfl
  have hlu : (Ed a).length = a.length := by simp [Ed]
  have hadd : (match (Ab .add (.list [encT (m, h)]) (Eu (Ed a))) with | some x => Ab .add x (.list [encT (-m, h)]) | none => none) = some (Eu (Aj a m h)) := by
    cases hu : Ed a with
    | nil =>
      simp only [Eu, Dk, List.length_cons, List.length_nil, List.map_nil, List.append_nil]
      rw [if_pos (by with_reducible exact Nat.le_trans (by repeat' first | assumption | apply Nat.add_le_add | exact Nat.le_refl _) (by decide))]
      simp only [Dj, List.length_cons, List.length_nil]
      rw [if_pos (by with_reducible exact Nat.le_trans (by repeat' first | assumption | apply Nat.add_le_add | exact Nat.le_refl _) (by decide))]
      simp only [Aj, hu]; rfl
    | cons p r =>
      rw [hu] at hlu
      simp only [List.length_cons] at hlu
      simp only [Eu, Dj, List.length_cons, List.length_nil, List.length_map]
      rw [if_pos (by lia)]
      simp only [Dj, List.length_append, List.length_cons, List.length_nil, List.length_map]
      rw [if_pos (by lia)]
      simp only [Aj, hu, List.map_cons, List.cons_append, List.nil_append, List.map_append, List.map_nil]
  have h24' := h24 _ _ _ _ _ hps
  have hps2 : ps.length ≤ 102 := by lia
  have hjoin := join_list (sep := gap) (l := ps) (hjl ps lp hps2)
  have hjll := hjlen ps lp hps2
  generalize hline : Iy ps gap lead m = line at good
  have hlinel : line.length ≤ 101020 := by
    rw [← hline]; unfold Iy
    split
    · rw [List.length_drop]; exact Nat.le_trans (Nat.sub_le _ _) ‹_›
    · exact hjll
  simp only [b26]
  rw [Ag (σ' := [some (false, .ilist a), some (false, .str gap), some (false, .str zero), some (false, .int m), some (false, .int h), some (false, .int lead), some (false, .int (bi : Int)), some (false, .int place), some (false, .int cut), some (false, Eu (Aj a m h)), none, none, none, none]) (by
    have t1 : ∀ σ : St, σ[3]? = some (some (false, .int m)) → σ[4]? = some (some (false, .int h)) → Ae G F (.list (.cons (.tup (.cons (.var 3) (.cons (.var 4) .nil))) .nil)) σ = some (.list [encT (m, h)]) := fun σ h3 h4 => by
      simp only [U6, K8, U7, Q0, K7, V4, h3, h4]
      rw [if_pos (len2 _ _)]
      rfl
    have t2 : ∀ σ : St, σ[3]? = some (some (false, .int m)) → σ[4]? = some (some (false, .int h)) → Ae G F (.list (.cons (.tup (.cons (.neg (.rd 3)) (.cons (.var 4) .nil))) .nil)) σ = some (.list [encT (-m, h)]) := fun σ h3 h4 => by
      simp only [U6, K8, U7, Q0, K7, Q4, Q1, V4, V3, h3, h4]
      rw [if_pos (len2 _ _)]
      rfl
    rw [J3, Q3, Q3, t1 _ rfl rfl, t2 _ rfl rfl, V1, V2, K9, K9, U2, Q1]
    simp only [V3, V5, Bv, Ek a.length (by with_reducible exact Nat.le_trans ‹_› (by decide)), Es, hlr, if_true, hcomp, V9, hmk]
    cases hq : Ab .add (.list [encT (m, h)]) (Eu (Ed a)) with
    | none => rw [hq] at hadd; cases hadd
    | some x =>
      rw [hq] at hadd
      simp only at hadd ⊢
      simp only [hadd, V7, V8])]
  rw [Ag (σ' := [some (false, .ilist a), some (false, .str gap), some (false, .str zero), some (false, .int m), some (false, .int h), some (false, .int lead), some (false, .int (bi : Int)), some (false, .int place), some (false, .int cut), some (false, Eu (Aj a m h)), some (false, Fc ps), none, none, none]) (by first | exact rfl | simp only [J3, K7, K8, Q0, U1, V4, V5, V6, V7, V8, h24'])]
  rw [Ag (σ' := [some (false, .ilist a), some (false, .str gap), some (false, .str zero), some (false, .int m), some (false, .int h), some (false, .int lead), some (false, .int (bi : Int)), some (false, .int place), some (false, .int cut), some (false, Eu (Aj a m h)), some (false, Fc ps), some (false, .str (Au gap ps)), none, none]) (by first | exact rfl | simp only [J3, Q1, U9, V3, V5, V6, V7, V8, hencs, hjoin])]
  rw [Ag (σ' := [some (false, .ilist a), some (false, .str gap), some (false, .str zero), some (false, .int m), some (false, .int h), some (false, .int lead), some (false, .int (bi : Int)), some (false, .int place), some (false, .int cut), some (false, Eu (Aj a m h)), some (false, Fc ps), some (false, .str line), none, none]) (by
    rw [← hline]; unfold Iy
    by_cases h1 : lead = 1
    · have hb1 : (lead == 1) = true := by simpa using h1
      by_cases h2 : m ≥ 0
      · rw [if_pos ⟨h1, h2⟩]
        simp only [J0, J1, J3, J8, K6, K9, Q1, Q6, Q8, U5, V3, V5, V6, V7, V8, V9, W0, Co, Dt, Ds, eq_int, hb1, h2, decide_true, Ju, show (0 : Int) ≤ 1 by decide, if_true, show ((1 : Int).toNat) = 1 by decide]
      · rw [if_neg (by simp [h2])]
        simp only [J0, J8, K6, K9, Q1, Q6, Q8, V3, V5, V6, V9, W0, Co, Dt, Ds, eq_int, hb1, h2, decide_false]
    · have hb1 : (lead == 1) = false := by simpa using h1
      rw [if_neg (by simp [h1])]
      simp only [J0, J8, K6, K9, Q1, Q6, Q8, V3, V5, V6, V9, W0, Co, Dt, eq_int, hb1])]
  have hr1 := h12 _ _ good
  have l1 : gap.length + line.length ≤ LIM := by with_reducible exact Nat.le_trans (by repeat' first | assumption | apply Nat.add_le_add | exact Nat.le_refl _) (by decide)
  have l2 : (gap ++ line).length + gap.length ≤ LIM := by simp only [List.length_append]; lia
  rw [Ag (σ' := [some (false, .ilist a), some (false, .str gap), some (false, .str zero), some (false, .int m), some (false, .int h), some (false, .int lead), some (false, .int (bi : Int)), some (false, .int place), some (false, .int cut), some (false, Eu (Aj a m h)), some (false, Fc ps), some (false, .str line), none, none]) (by
    simp only [J0, J8, K6, K7, K8, Q1, Q3, Q8, U1, V3, V5, V6, V9, W0, Co, Cu, Dn, l1, l2, if_true, hr1, exR, Du, beq_self_eq_true, Bool.not_true])]
  -- the place
  have hp0 : 0 < (ps.length : Int) - 1 := by lia
  have hfm0 : 0 ≤ place.fmod ((ps.length : Int) - 1) := Int.fmod_nonneg_of_pos _ hp0
  have hfm1 : place.fmod ((ps.length : Int) - 1) < (ps.length : Int) - 1 := Int.fmod_lt_of_pos _ hp0
  have hplv : 1 + place.fmod ((ps.length : Int) - 1) = ((Hp place ps.length : Nat) : Int) := (Int.toNat_of_nonneg (Int.add_nonneg (by decide) hfm0)).symm
  generalize hpv : Hp place ps.length = pl at *
  have hple : pl ≤ ps.length := by lia
  rw [Ag (σ' := [some (false, .ilist a), some (false, .str gap), some (false, .str zero), some (false, .int m), some (false, .int h), some (false, .int lead), some (false, .int (bi : Int)), some (false, .int (pl : Int)), some (false, .int cut), some (false, Eu (Aj a m h)), some (false, Fc ps), some (false, .str line), none, none]) (by
    have hne : ¬ ((ps.length : Int) - 1 = 0) := Int.ne_of_gt hp0
    have hlen : Af .len (.list (ps.map AV.str)) = some (.int (ps.length : Int)) := by simp only [Bw, List.length_map]
    rw [hencs]
    simp only [J3, Q3, K9, Q1, U2, V3, V5, V6, hlen, Cy, Ct, Cw, hne, if_false, hplv, V7, V8])]
  have ht := hjlen (ps.take pl) (Nat.le_trans (Ik ps pl).1 lp) (by rw [List.length_take]; exact Nat.le_trans (Nat.min_le_right _ _) hps2)
  have hd := hjlen (ps.drop pl) (Nat.le_trans (Ik ps pl).2 lp) (by rw [List.length_drop]; exact Nat.le_trans (Nat.sub_le _ _) hps2)
  have hjt := join_list (sep := gap) (l := ps.take pl) (hjl _ (Nat.le_trans (Ik ps pl).1 lp) (by rw [List.length_take]; exact Nat.le_trans (Nat.min_le_right _ _) hps2))
  have hjd := join_list (sep := gap) (l := ps.drop pl) (hjl _ (Nat.le_trans (Ik ps pl).2 lp) (by rw [List.length_drop]; exact Nat.le_trans (Nat.sub_le _ _) hps2))
  have m1 : (Au gap (ps.take pl)).length + [43].length ≤ LIM := by simp only [List.length_cons, List.length_nil]; with_reducible exact Nat.le_trans (by repeat' first | assumption | apply Nat.add_le_add | exact Nat.le_refl _) (by decide)
  have m2 : (Au gap (ps.take pl) ++ [43]).length + b.length ≤ LIM := by simp only [List.length_append, List.length_cons, List.length_nil]; with_reducible exact Nat.le_trans (by repeat' first | assumption | apply Nat.add_le_add | exact Nat.le_refl _) (by decide)
  have m3 : (Au gap (ps.take pl) ++ [43] ++ b).length + (Au gap (ps.drop pl)).length ≤ LIM := by simp only [List.length_append, List.length_cons, List.length_nil]; with_reducible exact Nat.le_trans (by repeat' first | assumption | apply Nat.add_le_add | exact Nat.le_refl _) (by decide)
  have hbi : Ay (.tup (bads.map AV.str)) (.int (bi : Int)) = some (.str b) := by simp only [Ay, Bh, List.getElem?_map, hb, V9]
  rw [Ag (σ' := [some (false, .ilist a), some (false, .str gap), some (false, .str zero), some (false, .int m), some (false, .int h), some (false, .int lead), some (false, .int (bi : Int)), some (false, .int (pl : Int)), some (false, .int cut), some (false, Eu (Aj a m h)), some (false, Fc ps), some (false, .str line), some (false, .str (Au gap (ps.take pl) ++ [43] ++ b)), none]) (by
    rw [hencs]
    simp only [J3, Q3, U9, U4, U3, Q2, hG, K9, Q1, V3, V5, V6, takeop, Int.natCast_nonneg, if_true, Int.toNat_natCast, ← List.map_take, hjt, Cu, m1, m2, hbi, V7, V8])]
  rw [Ag (σ' := [some (false, .ilist a), some (false, .str gap), some (false, .str zero), some (false, .int m), some (false, .int h), some (false, .int lead), some (false, .int (bi : Int)), some (false, .int (pl : Int)), some (false, .int cut), some (false, Eu (Aj a m h)), some (false, Fc ps), some (false, .str line), some (false, .str (Au gap (ps.take pl) ++ [43] ++ b ++ (if cut > 1 then Au gap (ps.drop pl) else []))), none]) (by
    rw [hencs]
    by_cases hc : cut > 1
    · rw [if_pos hc]
      simp only [J8, K6, Q8, J1, J0, J3, Q3, U9, U5, K9, Q1, V3, V5, V6, Dr, hc, decide_true, V9, W0, Co, Ju, Int.natCast_nonneg, if_true, Int.toNat_natCast, ← List.map_drop, hjd, Cu, m3, V7, V8]
    · rw [if_neg hc, List.append_nil]
      simp only [J0, J8, K6, K9, Q1, Q8, V3, V5, V6, V9, W0, Co, Dr, hc, decide_false])]
  rw [Ag (σ' := [some (false, .ilist a), some (false, .str gap), some (false, .str zero), some (false, .int m), some (false, .int h), some (false, .int lead), some (false, .int (bi : Int)), some (false, .int (pl : Int)), some (false, .int cut), some (false, Eu (Aj a m h)), some (false, Fc ps), some (false, .str line), some (false, .str (damOf ps gap b pl cut)), none]) (by
    unfold damOf
    by_cases hc : cut = 1
    · have hb1 : (cut == 1) = true := by simpa using hc
      rw [if_pos hc]
      simp only [J0, J1, J3, J8, K6, K9, Q0, Q1, Q8, V3, V4, V5, V6, V7, V8, V9, W0, Co, Dt, eq_int, hb1]
    · have hb1 : (cut == 1) = false := by simpa using hc
      rw [if_neg hc]
      simp only [J0, J8, K6, K9, Q1, Q8, V3, V5, V6, V9, W0, Co, Dt, eq_int, hb1])]
  have hr2 := h12 _ _ bad
  refine ⟨[some (false, .ilist a), some (false, .str gap), some (false, .str zero), some (false, .int m), some (false, .int h), some (false, .int lead), some (false, .int (bi : Int)), some (false, .int (pl : Int)), some (false, .int cut), some (false, Eu (Aj a m h)), some (false, Fc ps), some (false, .str line), some (false, .str (damOf ps gap b pl cut)), some (false, .bool true)], ?_⟩
  simp only [J0, J1, J3, J8, K1, K5, K6, K7, K8, K9, Q0, Q1, Q5, V3, V4, V5, V6, V7, V8, V9, W0, Co, hr2, exR, Bool.not_true]
end
end Mine
end
section
open PySem
namespace Mine
set_option tactic.hygienic false
set_option autoImplicit false
section
variable {G : Str → Option AV} {F : Nat → List AV → Option Res} {N : Nat}
noncomputable def Ig (f : List Int) : Nat → List Int → Option (List Int)
  | 0, b => some b
  | n + 1, b => match multiply b f with
    | some b' => Ig f n b'
    | none => none
noncomputable def Jv : List (List Int × Int) → List Int → Option (List Int)
  | [], b => some b
  | (f, o) :: r, b => if 0 ≤ o ∧ o ≤ 100 then (match Ig f o.toNat b with
    | some b' => Jv r b'
    | none => none) else none
set_option tactic.hygienic true in
theorem for_pow (h13 : ∀ a b r, multiply a b = some r → F 13 [.ilist a, .ilist b] = some (.val (.ilist r))) {A K W Gt L : Option (Bool × AV)} {f : List Int} {O : Option (Bool × AV)} : ∀ (n : Nat) (is : List Nat) (b r : List Int) (tv : Option (Bool × AV)), is.length = n → Ig f n b = some r → ∃ tv',
    Dy [7] (Ah G F N b27d1) (is.map fun (i : Nat) => AV.int (i : Int)) [A, K, W, some (false, .ilist b), Gt, some (false, .ilist f), O, tv, L] = some (.next, [A, K, W, some (false, .ilist r), Gt, some (false, .ilist f), O, tv', L])
  | 0, is, b, r, tv, hl, h => by
    have : is = [] := List.eq_nil_of_length_eq_zero hl
    subst this
    simp only [Ig, Option.some.injEq] at h; subst h
    exact ⟨tv, rfl⟩
  | n + 1, [], b, r, tv, hl, h => by simp at hl
  | n + 1, i :: is, b, r, tv, hl, h => by
    simp only [Ig] at h
    split at h
    · rename_i b' hb'
      obtain ⟨tv', ih⟩ := for_pow h13 (A := A) (K := K) (W := W) (Gt := Gt) (L := L) (O := O) n is b' r (some (false, .int (i : Int))) (by simpa using hl) h
      refine ⟨tv', ?_⟩
      rw [List.map_cons, ← ih]
      refine Fs ?_
      simp only [b27d1, J0, J1, J3, K7, K8, Q0, U1, V4, V5, V6, V7, V8, h13 b f b' hb']
    · cases h
set_option tactic.hygienic true in
theorem for_back (h13 : ∀ a b r, multiply a b = some r → F 13 [.ilist a, .ilist b] = some (.val (.ilist r))) {A K W Gt L : Option (Bool × AV)} : ∀ (l : List (List Int × Int)) (b r : List Int) (fv ov tv : Option (Bool × AV)), Jv l b = some r → ∃ fv' ov' tv',
    Dy [5, 6] (Ah G F N b27d0) (l.map encP) [A, K, W, some (false, .ilist b), Gt, fv, ov, tv, L] = some (.next, [A, K, W, some (false, .ilist r), Gt, fv', ov', tv', L])
  | [], b, r, fv, ov, tv, h => by simp only [Jv, Option.some.injEq] at h; subst h; exact ⟨fv, ov, tv, rfl⟩
  | (f, o) :: l, b, r, fv, ov, tv, h => by
    have hL : LIM = 1048576 := rfl
    simp only [Jv] at h
    split at h
    · rename_i ho
      split at h
      · rename_i b' hb'
        obtain ⟨tv₁, hp⟩ := for_pow (G := G) (N := N) h13 (A := A) (K := K) (W := W) (Gt := Gt) (L := L) (O := some (false, .int o)) o.toNat (List.range o.toNat) b b' tv (by simp) hb'
        obtain ⟨fv', ov', tv', ih⟩ := for_back h13 (A := A) (K := K) (W := W) (Gt := Gt) (L := L) l b' r (some (false, .ilist f)) (some (false, .int o)) tv₁ h
        refine ⟨fv', ov', tv', ?_⟩
        rw [List.map_cons, ← ih]
        refine f_next2 ?_
        have e1 : o = ((o.toNat : Nat) : Int) := by exact ZG ‹_›
        have hit := Ek o.toNat (by lia)
        rw [← e1] at hit
        simp only [b27d0, J0, J1, K0, K9, Q1, V2, V3, V5, V6, V7, V8, hit, Es, hp]
      · cases h
    · cases h
theorem ok_out (l : List (List Int × Int)) : okA 59 (Ak l) = true := by
  cases l with
  | nil => rfl
  | cons p r =>
    have : ∀ q : List (List Int × Int), okAs 58 (q.map encP) = true := by
      intro q
      induction q with
      | nil => rfl
      | cons p r ih => simp only [List.map_cons, okAs, ih, Bool.and_true]; rfl
    simp only [Ak, okA, this]; rfl
theorem eq_out (k : Int) (l : List (List Int × Int)) : eqAV (.tup [.int k, Ak l]) (.tup [.int k, Ak l]) = some true := by
  have h1 : okA 60 (.tup [.int k, Ak l]) = true := by
    simp only [okA, okAs, Nat.reduceSub, ok_out, Bool.and_true]; rfl
  have h2 : eqAV (.tup [.int k, Ak l]) (.tup [.int k, Ak l]) = (if okA 60 (.tup [.int k, Ak l]) && okA 60 (.tup [.int k, Ak l]) then some (PyData.eqv (toD (.tup [.int k, Ak l])) (toD (.tup [.int k, Ak l]))) else none) := rfl
  rw [h2, h1]
  simp only [Bool.and_self, if_true, Option.some.injEq]
  exact PySem.SeqAt.eqv_refl _ (can_of _ _ h1).1
theorem items_out (l : List (List Int × Int)) : Ff (Ak l) = some (l.map encP) := by cases l <;> rfl
structure ApartOk (a : List Int) (k : Int) (l : List (List Int × Int)) (line : List Nat) : Prop where
  fac : k ≠ 0 → sqf a = some (k, l) ∧ Jv l [k] = some a
  zero : k = 0 → a = []
  sh : showS a = some line
  shn : Km a = some line
  rd : Hg line = some (some a)
theorem run_apart (h5 : ∀ a r, showS a = some r → F 5 [.ilist a] = some (.val (.str r))) (h12 : ∀ t r, Hg t = some r → F 12 [.str t] = some (exR r)) (h13 : ∀ a b r, multiply a b = some r → F 13 [.ilist a, .ilist b] = some (.val (.ilist r)))
    (h20 : ∀ a r, sqf a = some r → F 20 [.ilist a] = some (.val (.tup [.int r.1, Ak r.2]))) (h25 : ∀ a r, Km a = some r → F 25 [.ilist a] = some (.val (.str r)))
    {a : List Int} {k : Int} {l : List (List Int × Int)} {line : List Nat} (hok : ApartOk a k l line) :
    ∃ σ', Ah G F N b27.body [some (false, .ilist a), some (false, .int k), some (false, Ak l), none, none, none, none, none, none] = some (.ret (.bool true), σ') := by
  obtain ⟨fac, zero, sh, shn, rd⟩ := hok
  have hsh := h5 _ _ sh
  have hshn := h25 _ _ shn
  have hrd := h12 _ _ rd
  have tail : ∀ (gt fv ov tv : Option (Bool × AV)), ∃ σ', Ah G F N (.seq (.assign 8 (.call 5 (.cons (.var 3) .nil))) (.seq (.ite (.or (.cmp .ne (.rd 3) (.rd 0)) (.or (.cmp .ne (.rd 8) (.call 25 (.cons (.var 0) .nil))) (.cmp .ne (.call 12 (.cons (.var 8) .nil)) (.rd 0)))) (.seq (.ret (.lit (.bool false))) .skip) .skip) (.seq (.ret (.lit (.bool true))) .skip)))
      [some (false, .ilist a), some (false, .int k), some (false, Ak l), some (false, .ilist a), gt, fv, ov, tv, none] = some (.ret (.bool true), σ') := fun gt fv ov tv => by
    refine ⟨[some (false, .ilist a), some (false, .int k), some (false, Ak l), some (false, .ilist a), gt, fv, ov, tv, some (false, .str line)], ?_⟩
    simp only [J0, J1, J3, J8, K1, K6, K7, K8, K9, Q0, Q1, Q7, Q8, U1, V3, V4, V5, V6, V7, V8, V9, W0, Co, Dn, hsh, eq_str, Du, beq_self_eq_true, Bool.not_true, hshn, hrd, exR]
  simp only [b27]
  rw [Ag (σ' := [some (false, .ilist a), some (false, .int k), some (false, Ak l), some (false, .ilist []), none, none, none, none, none]) (by first | exact rfl | simp only [J0, J1, J2, J3, J4, J5, J6, J7, J8, J9, K0, K1, K2, K3, K4, K5, K6, K7, K8, K9, Q0, Q1, Q2, Q3, Q4, Q5, Q6, Q7, Q8, Q9, U0, U1, U2, U3, U4, U5, U6, U7, U8, U9, V0, V1, V2, V3, V4, V5, V6, V7, V8, V9, W0, Cm, Co, Cs, Cr, Cf, Cn, Cy, Cu, Dm, Dj, Dl, Dk, Ct, Cq, Cp, Cc, Cg, Cz, Cw, Cv, Dt, Dn, Dp, Dq, Dr, Ds, Da, Db, Dc, Dd, Ci, Ch, Ce, Cd, Bz, Bx, By, Bu, Bq, Br, Bt, Bs, Bp, Bm, Bn, Bo, Do, Cb, Bv, Bw, Ca, Di, Cl, Ck, Cj, De, Df, Dh, List.length_nil, Nat.zero_le, if_true, mkL0])]
  by_cases hk : k = 0
  · have := zero hk
    subst this
    have hb : (k == 0) = true := by simpa using hk
    obtain ⟨σ', hσ⟩ := tail none none none none
    refine ⟨σ', ?_⟩
    rw [Ag (σ' := [some (false, .ilist []), some (false, .int k), some (false, Ak l), some (false, .ilist []), none, none, none, none, none]) (by first | exact rfl | simp only [J0, J8, K6, K9, Q1, Q8, V3, V5, V6, V9, W0, Co, Dn, eq_int, hb, Bool.not_true])]
    exact hσ
  · obtain ⟨hsq, hback⟩ := fac hk
    have hb : (k == 0) = false := by simpa using hk
    have h20' := h20 _ _ hsq
    obtain ⟨fv', ov', tv', hfor⟩ := for_back (G := G) (N := N) h13 (A := some (false, .ilist a)) (K := some (false, .int k)) (W := some (false, Ak l)) (Gt := some (false, .tup [.int k, Ak l])) (L := none) l [k] a none none none hback
    obtain ⟨σ', hσ⟩ := tail (some (false, .tup [.int k, Ak l])) fv' ov' tv'
    refine ⟨σ', ?_⟩
    rw [Ag (σ' := [some (false, .ilist a), some (false, .int k), some (false, Ak l), some (false, .ilist a), some (false, .tup [.int k, Ak l]), fv', ov', tv', none]) (by
      rw [J8]
      have ht : Bb G F (.cmp .ne (.rd 1) (.lit (.int 0))) [some (false, .ilist a), some (false, .int k), some (false, Ak l), some (false, .ilist []), none, none, none, none, none] = some true := by simp only [K6, K9, Q1, Q8, V3, V5, V6, V9, W0, Co, Dn, eq_int, hb, Bool.not_false]
      rw [ht]
      simp only
      rw [Ag (σ' := [some (false, .ilist a), some (false, .int k), some (false, Ak l), some (false, .ilist []), some (false, .tup [.int k, Ak l]), none, none, none, none]) (by first | exact rfl | simp only [J3, K7, K8, Q0, U1, V4, V5, V7, V8, h20'])]
      rw [Ag (σ' := [some (false, .ilist a), some (false, .int k), some (false, Ak l), some (false, .ilist []), some (false, .tup [.int k, Ak l]), none, none, none, none]) (by
        simp only [J8, K6, Q8, U7, K8, Q0, K7, Q1, V3, V4, V5, V6]
        rw [if_pos (len2 _ _)]
        have : Ad .ne (.tup [.int k, Ak l]) (.tup [.int k, Ak l]) = some false := by
          show (eqAV _ _).map (!·) = _
          rw [eq_out]; rfl
        simp only [this, V9, W0, Co, J0])]
      have i0 : Ay (.tup [.int k, Ak l]) (.int 0) = some (.int k) := rfl
      have i1 : Ay (.tup [.int k, Ak l]) (.int 1) = some (Ak l) := rfl
      rw [Ag (σ' := [some (false, .ilist a), some (false, .int k), some (false, Ak l), some (false, .ilist [k]), some (false, .tup [.int k, Ak l]), none, none, none, none]) (by
        simp only [J3, U6, K8, U3, Q1, K9, K7, V3, V5, V6, i0, List.length_cons, List.length_nil, mkL1]
        rw [if_pos (by decide)]
        simp only [V7, V8])]
      rw [Ag (σ' := [some (false, .ilist a), some (false, .int k), some (false, Ak l), some (false, .ilist a), some (false, .tup [.int k, Ak l]), fv', ov', tv', none]) (by
        simp only [K0, U3, Q1, K9, V3, V5, V6, i1, items_out, hfor])]
      rw [J0])]
    exact hσ
end
end Mine
end
section
open PySem
namespace Mine
set_option tactic.hygienic false
set_option autoImplicit false
section
variable {G : Str → Option AV} {F : Nat → List AV → Option Res} {N : Nat}
noncomputable def Dx (k l t i j : Int) : Bool := decide (l < 10) && (k == 0 || (k.fmod t == 0 && (l == 0 || (l == i || l == j))))
noncomputable def bestOf (a : List Int) (k l t i j : Int) (p : List Int) : Option (List Int) :=
  let b0 := if k = 0 ∨ l = i ∨ l = j then p else [1]
  match (if k.fmod 2 = 0 ∧ t.fmod 2 = 0 then Fj 2 b0 else some b0) with
  | some b1 => (match (if k.fmod 3 = 0 ∧ t.fmod 3 = 0 then Fj 3 b1 else some b1) with
    | some b2 => some (if l = 10 then (if k < 0 then a.map (- ·) else a) else b2)
    | none => none)
  | none => none
structure DivOk (a : List Int) (k l t i j : Int) (p w best : List Int) (q : Option (List Int)) : Prop where
  t0 : t ≠ 0
  la : a.length ≤ LIM
  lp : p.length ≤ LIM
  hw : Fj t p = some w
  dv : En a w = some q
  fit : q.isSome = Dx k l t i j
  mul : ∀ r, q = some r → multiply r w = some a
  bst : bestOf a k l t i j p = some best
  gcd : gcdP a w = some best
set_option tactic.hygienic true in
theorem step_best {A L MV W H FT Q R : Option (Bool × AV)} {k t d : Int} {b b' : List Int} (hd : d ≠ 0) (hl : b.length ≤ LIM) (h : (if k.fmod d = 0 ∧ t.fmod d = 0 then Fj d b else some b) = some b') :
    Ah G F N b28d0 [A, some (false, .int k), L, some (false, .int t), MV, W, H, FT, Q, R, some (false, .ilist b), some (false, .int d)] = some (.next, [A, some (false, .int k), L, some (false, .int t), MV, W, H, FT, Q, R, some (false, .ilist b'), some (false, .int d)]) := by
  have c3 : ∀ x : Int, Ab .mod (.int x) (.int d) = some (.int (x.fmod d)) := fun x => by simp only [Cw]; rw [if_neg hd]
  have c2 : ∀ x y : Int, Ad .eq (.int x) (.int y) = some (x == y) := fun _ _ => rfl
  by_cases h1 : k.fmod d = 0
  · have b1 : (k.fmod d == 0) = true := by simpa using h1
    by_cases h2 : t.fmod d = 0
    · have b2 : (t.fmod d == 0) = true := by simpa using h2
      rw [if_pos ⟨h1, h2⟩] at h
      unfold Fj at h
      split at h <;> cases h
      rename_i hall
      have hcomp := Gr (G := G) (F := F) (σ := [A, some (false, .int k), L, some (false, .int t), MV, W, H, FT, Q, R, some (false, .ilist b), some (false, .int d)]) (elt := .bin .mul (.rd 11) (.rd 12)) (z := b) (d * ·) (fun c hc => by
        have := List.all_eq_true.mp hall c hc
        simp only [List.cons_append, List.nil_append, Q1, Q3, V3, V5, V6, Cq, this, if_true])
      have hlm : (b.map AV.int).length ≤ LIM := by simpa using hl
      simp only [b28d0, J1, J8, J0, J3, K6, Q6, Q8, Q3, Q1, K9, V1, V3, V5, V6, c3, c2, b1, b2, V9, W0, Co, Bj, hlm, if_true, hcomp, Fb, V7, V8]
    · have b2 : (t.fmod d == 0) = false := by simpa using h2
      rw [if_neg (by simp [h2])] at h; cases h
      simp only [b28d0, J1, J8, J0, K6, Q6, Q8, Q3, Q1, K9, V3, V5, V6, c3, c2, b1, b2, V9, W0, Co]
  · have b1 : (k.fmod d == 0) = false := by simpa using h1
    rw [if_neg (by simp [h1])] at h; cases h
    simp only [b28d0, J1, J8, J0, K6, Q6, Q8, Q3, Q1, K9, V3, V5, V6, c3, c2, b1, V9, W0, Co]
theorem mulAll_len {d : Int} {b b' : List Int} {P : Prop} [Decidable P] (h : (if P then Fj d b else some b) = some b') : b'.length = b.length := by
  split at h
  · unfold Fj at h
    split at h <;> cases h
    simp
  · cases h; rfl
theorem in_pair (l i j : Int) : Ad .isIn (.int l) (.tup [.int i, .int j]) = some (l == i || l == j) := by
  have : Ad .isIn (.int l) (.tup [.int i, .int j]) = some (PyData.eqv (.int i) (.int l) || (PyData.eqv (.int j) (.int l) || false)) := rfl
  rw [this]
  simp only [PyData.eqv, Bool.or_false, Option.some.injEq]
  rw [BEq.comm (a := i), BEq.comm (a := j)]
theorem seq_items {v : AV} {g : List Int} (h : Seq v g) : Ff v = some (g.map AV.int) := by rcases h with rfl | rfl <;> rfl
theorem seq_list {v : AV} {g : List Int} (h : Seq v g) : Af .list v = some (.ilist g) := by
  rcases h with rfl | rfl
  · rfl
  · simp only [Cj, Fb]
set_option tactic.hygienic true in
theorem run_dividing (h13 : ∀ a b r, multiply a b = some r → F 13 [.ilist a, .ilist b] = some (.val (.ilist r))) (h16 : ∀ a b r, En a b = some r → F 16 [.ilist a, .ilist b] = some (exR r)) (h19 : ∀ a b r, gcdP a b = some r → F 19 [.ilist a, .ilist b] = some (.val (.ilist r)))
    {PV : AV} (hG : G (Str.ofString "_law_PARTS") = some PV) {a p w best : List Int} {k l t i j : Int} {q : Option (List Int)} {pv : AV} (hpv : Ay PV (.int l) = some pv) (hp : Seq pv p) (hok : DivOk a k l t i j p w best q) :
    ∃ σ', Ah G F N b28.body [some (false, .ilist a), some (false, .int k), some (false, .int l), some (false, .int t), some (false, .tup [.int i, .int j]), none, none, none, none, none, none, none] = some (.ret (.bool true), σ') := by
  obtain ⟨t0, la, lp, hw, dv, fit, mul, bst, gc⟩ := hok
  unfold Fj at hw
  split at hw <;> cases hw
  rename_i hall
  have hcomp := Gr (G := G) (F := F) (σ := [some (false, .ilist a), some (false, .int k), some (false, .int l), some (false, .int t), some (false, .tup [.int i, .int j]), none, none, none, none, none, none, none]) (elt := .bin .mul (.rd 3) (.rd 12)) (z := p) (t * ·) (fun c hc => by
    have := List.all_eq_true.mp hall c hc
    simp only [List.cons_append, List.nil_append, Q1, Q3, V3, V5, V6, Cq, this, if_true])
  have hl : (p.map AV.int).length ≤ LIM := by simpa using lp
  generalize hwv : p.map (t * ·) = w at *
  simp only [b28]
  rw [Ag (σ' := [some (false, .ilist a), some (false, .int k), some (false, .int l), some (false, .int t), some (false, .tup [.int i, .int j]), some (false, .ilist w), none, none, none, none, none, none]) (by
    simp only [J3, V1, U3, Q2, hG, Q1, V3, V5, V6, hpv, seq_items hp, hl, if_true, hcomp, V9, Fb, V7, V8])]
  rw [Ag (σ' := [some (false, .ilist a), some (false, .int k), some (false, .int l), some (false, .int t), some (false, .tup [.int i, .int j]), some (false, .ilist w), some (false, .ilist w), none, none, none, none, none]) (by first | exact rfl | simp only [J0, J1, J2, J3, J4, J5, J6, J7, J8, J9, K0, K1, K2, K3, K4, K5, K6, K7, K8, K9, Q0, Q1, Q2, Q3, Q4, Q5, Q6, Q7, Q8, Q9, U0, U1, U2, U3, U4, U5, U6, U7, U8, U9, V0, V1, V2, V3, V4, V5, V6, V7, V8, V9, W0, Cm, Co, Cs, Cr, Cf, Cn, Cy, Cu, Dm, Dj, Dl, Dk, Ct, Cq, Cp, Cc, Cg, Cz, Cw, Cv, Dt, Dn, Dp, Dq, Dr, Ds, Da, Db, Dc, Dd, Ci, Ch, Ce, Cd, Bz, Bx, By, Bu, Bq, Br, Bt, Bs, Bp, Bm, Bn, Bo, Do, Cb, Bv, Bw, Ca, Di, Cl, Ck, Cj, De, Df, Dh])]
  rw [Ag (σ' := [some (false, .ilist a), some (false, .int k), some (false, .int l), some (false, .int t), some (false, .tup [.int i, .int j]), some (false, .ilist w), some (false, .ilist w), some (false, .bool false), none, none, none, none]) (by first | exact rfl | simp only [J0, J1, J2, J3, J4, J5, J6, J7, J8, J9, K0, K1, K2, K3, K4, K5, K6, K7, K8, K9, Q0, Q1, Q2, Q3, Q4, Q5, Q6, Q7, Q8, Q9, U0, U1, U2, U3, U4, U5, U6, U7, U8, U9, V0, V1, V2, V3, V4, V5, V6, V7, V8, V9, W0, Cm, Co, Cs, Cr, Cf, Cn, Cy, Cu, Dm, Dj, Dl, Dk, Ct, Cq, Cp, Cc, Cg, Cz, Cw, Cv, Dt, Dn, Dp, Dq, Dr, Ds, Da, Db, Dc, Dd, Ci, Ch, Ce, Cd, Bz, Bx, By, Bu, Bq, Br, Bt, Bs, Bp, Bm, Bn, Bo, Do, Cb, Bv, Bw, Ca, Di, Cl, Ck, Cj, De, Df, Dh])]
  rw [Ag (σ' := [some (false, .ilist a), some (false, .int k), some (false, .int l), some (false, .int t), some (false, .tup [.int i, .int j]), some (false, .ilist w), some (false, .ilist w), some (false, .bool (Dx k l t i j)), none, none, none, none]) (by
    have htest : Bb G F (.and (.cmp .lt (.rd 2) (.lit (.int 10))) (.or (.cmp .eq (.rd 1) (.lit (.int 0))) (.and (.cmp .eq (.bin .mod (.rd 1) (.rd 3)) (.lit (.int 0))) (.or (.cmp .eq (.rd 2) (.lit (.int 0))) (.cmp .isIn (.rd 2) (.rd 4))))))
        [some (false, .ilist a), some (false, .int k), some (false, .int l), some (false, .int t), some (false, .tup [.int i, .int j]), some (false, .ilist w), some (false, .ilist w), some (false, .bool false), none, none, none, none] = some (Dx k l t i j) := by
      have hin := in_pair l i j
      have c1 : ∀ x y : Int, Ad .lt (.int x) (.int y) = some (decide (x < y)) := fun _ _ => rfl
      have c2 : ∀ x y : Int, Ad .eq (.int x) (.int y) = some (x == y) := fun _ _ => rfl
      have c3 : Ab .mod (.int k) (.int t) = some (.int (k.fmod t)) := by simp only [Cw]; rw [if_neg t0]
      simp only [K6, Q6, Q7, Q8, Q1, K9, Q3, V3, V5, V6, c1, c2, c3, hin, V9, Co]
      unfold Dx
      cases decide (l < 10) <;> cases (k == 0) <;> cases (k.fmod t == 0) <;> cases (l == 0) <;> simp [Co]
    rw [J8, htest]
    cases hfb : Dx k l t i j with
    | true => simp only [J0, J1, J3, K9, V7, V8]
    | false => simp only [J0])]
  rw [Ag (σ' := [some (false, .ilist a), some (false, .int k), some (false, .int l), some (false, .int t), some (false, .tup [.int i, .int j]), some (false, .ilist w), some (false, .ilist w), some (false, .bool (Dx k l t i j)), some (false, .ilist []), none, none, none]) (by first | exact rfl | simp only [J0, J1, J2, J3, J4, J5, J6, J7, J8, J9, K0, K1, K2, K3, K4, K5, K6, K7, K8, K9, Q0, Q1, Q2, Q3, Q4, Q5, Q6, Q7, Q8, Q9, U0, U1, U2, U3, U4, U5, U6, U7, U8, U9, V0, V1, V2, V3, V4, V5, V6, V7, V8, V9, W0, Cm, Co, Cs, Cr, Cf, Cn, Cy, Cu, Dm, Dj, Dl, Dk, Ct, Cq, Cp, Cc, Cg, Cz, Cw, Cv, Dt, Dn, Dp, Dq, Dr, Ds, Da, Db, Dc, Dd, Ci, Ch, Ce, Cd, Bz, Bx, By, Bu, Bq, Br, Bt, Bs, Bp, Bm, Bn, Bo, Do, Cb, Bv, Bw, Ca, Di, Cl, Ck, Cj, De, Df, Dh, List.length_nil, Nat.zero_le, if_true, mkL0])]
  rw [Ag (σ' := [some (false, .ilist a), some (false, .int k), some (false, .int l), some (false, .int t), some (false, .tup [.int i, .int j]), some (false, .ilist w), some (false, .ilist w), some (false, .bool (Dx k l t i j)), some (false, .ilist []), some (false, .bool false), none, none]) (by first | exact rfl | simp only [J0, J1, J2, J3, J4, J5, J6, J7, J8, J9, K0, K1, K2, K3, K4, K5, K6, K7, K8, K9, Q0, Q1, Q2, Q3, Q4, Q5, Q6, Q7, Q8, Q9, U0, U1, U2, U3, U4, U5, U6, U7, U8, U9, V0, V1, V2, V3, V4, V5, V6, V7, V8, V9, W0, Cm, Co, Cs, Cr, Cf, Cn, Cy, Cu, Dm, Dj, Dl, Dk, Ct, Cq, Cp, Cc, Cg, Cz, Cw, Cv, Dt, Dn, Dp, Dq, Dr, Ds, Da, Db, Dc, Dd, Ci, Ch, Ce, Cd, Bz, Bx, By, Bu, Bq, Br, Bt, Bs, Bp, Bm, Bn, Bo, Do, Cb, Bv, Bw, Ca, Di, Cl, Ck, Cj, De, Df, Dh])]
  have h16' := h16 _ _ _ dv
  rw [Ag (σ' := [some (false, .ilist a), some (false, .int k), some (false, .int l), some (false, .int t), some (false, .tup [.int i, .int j]), some (false, .ilist w), some (false, .ilist w), some (false, .bool (Dx k l t i j)), some (false, .ilist (q.getD [])), some (false, .bool (!Dx k l t i j)), none, none]) (by
    cases q with
    | none => simp only [Option.isSome_none] at fit; simp only [K5, K7, K8, Q0, V4, V5, V6, V7, V8, h16', exR, ← fit, Bool.not_false, Option.getD_none]
    | some r => simp only [Option.isSome_some] at fit; simp only [K5, K7, K8, Q0, V4, V5, V6, V7, V8, h16', exR, ← fit, Bool.not_true, Option.getD_some])]
  rw [Ag (σ' := [some (false, .ilist a), some (false, .int k), some (false, .int l), some (false, .int t), some (false, .tup [.int i, .int j]), some (false, .ilist w), some (false, .ilist w), some (false, .bool (Dx k l t i j)), some (false, .ilist (q.getD [])), some (false, .bool (!Dx k l t i j)), none, none]) (by
    have hb : ((!Dx k l t i j) == Dx k l t i j) = false := by cases Dx k l t i j <;> rfl
    simp only [J0, J8, K6, Q1, Q5, Q7, Q8, U0, V3, V5, V6, V9, W0, Co, Dt, eq_bool, hb, Hd, beq_self_eq_true, Bool.not_true])]
  rw [Ag (σ' := [some (false, .ilist a), some (false, .int k), some (false, .int l), some (false, .int t), some (false, .tup [.int i, .int j]), some (false, .ilist w), some (false, .ilist w), some (false, .bool (Dx k l t i j)), some (false, .ilist (q.getD [])), some (false, .bool (!Dx k l t i j)), none, none]) (by
    cases q with
    | none => simp only [Option.isSome_none] at fit; simp only [J0, J8, K6, Q1, Q6, V3, V5, V6, W0, Co, ← fit]
    | some r =>
      simp only [Option.isSome_some] at fit
      have := h13 _ _ _ (mul r rfl)
      simp only [J0, J8, K6, K7, K8, Q0, Q1, Q6, Q8, U1, V3, V4, V5, V6, V9, W0, Co, Dn, ← fit, Option.getD_some, this, Du, beq_self_eq_true, Bool.not_true])]
  unfold bestOf at bst
  simp only at bst
  have hL : LIM = 1048576 := rfl
  generalize hb0 : (if k = 0 ∨ l = i ∨ l = j then p else [1]) = b0 at bst
  have hl0 : b0.length ≤ LIM := by
    rw [← hb0]; split
    · exact lp
    · simp only [List.length_cons, List.length_nil]; with_reducible exact Nat.le_trans (by repeat' first | assumption | apply Nat.add_le_add | exact Nat.le_refl _) (by decide)
  split at bst
  · rename_i b1 hb1
    split at bst
    · rename_i b2 hb2
      cases bst
      have hl1 : b1.length ≤ LIM := by rw [mulAll_len hb1]; exact hl0
      rw [Ag (σ' := [some (false, .ilist a), some (false, .int k), some (false, .int l), some (false, .int t), some (false, .tup [.int i, .int j]), some (false, .ilist w), some (false, .ilist w), some (false, .bool (Dx k l t i j)), some (false, .ilist (q.getD [])), some (false, .bool (!Dx k l t i j)), some (false, .ilist [1]), none]) (by
        simp only [J3, U6, K8, K9, K7, List.length_cons, List.length_nil, mkL1]
        rw [if_pos (by decide)]
        simp only [V7, V8])]
      rw [Ag (σ' := [some (false, .ilist a), some (false, .int k), some (false, .int l), some (false, .int t), some (false, .tup [.int i, .int j]), some (false, .ilist w), some (false, .ilist w), some (false, .bool (Dx k l t i j)), some (false, .ilist (q.getD [])), some (false, .bool (!Dx k l t i j)), some (false, .ilist b0), none]) (by
        have hin := in_pair l i j
        have c2 : ∀ x y : Int, Ad .eq (.int x) (.int y) = some (x == y) := fun _ _ => rfl
        rw [← hb0]
        by_cases hk : k = 0
        · have bk : (k == 0) = true := by simpa using hk
          rw [if_pos (.inl hk)]
          simp only [J8, J1, J0, J3, K6, Q7, Q8, Q1, K9, U2, U3, Q2, hG, hpv, seq_list hp, V3, V5, V6, c2, bk, V9, W0, Co, V7, V8]
        · have bk : (k == 0) = false := by simpa using hk
          by_cases hlm : l = i ∨ l = j
          · have bl : (l == i || l == j) = true := by simpa using hlm
            rw [if_pos (.inr hlm)]
            simp only [J8, J1, J0, J3, K6, Q7, Q8, Q1, K9, U2, U3, Q2, hG, hpv, seq_list hp, V3, V5, V6, c2, bk, hin, bl, V9, W0, Co, V7, V8]
          · have bl : (l == i || l == j) = false := by simpa using hlm
            rw [if_neg (by simp only [not_or] at hlm ⊢; exact ⟨hk, hlm⟩)]
            simp only [J8, J0, K6, Q7, Q8, Q1, K9, V3, V5, V6, c2, bk, hin, bl, V9, W0, Co])]
      rw [Ag (σ' := [some (false, .ilist a), some (false, .int k), some (false, .int l), some (false, .int t), some (false, .tup [.int i, .int j]), some (false, .ilist w), some (false, .ilist w), some (false, .bool (Dx k l t i j)), some (false, .ilist (q.getD [])), some (false, .bool (!Dx k l t i j)), some (false, .ilist b2), some (false, .int 3)]) (by
        have ht : Ae G F (.tup (.cons (.lit (.int 2)) (.cons (.lit (.int 3)) .nil))) [some (false, .ilist a), some (false, .int k), some (false, .int l), some (false, .int t), some (false, .tup [.int i, .int j]), some (false, .ilist w), some (false, .ilist w), some (false, .bool (Dx k l t i j)), some (false, .ilist (q.getD [])), some (false, .bool (!Dx k l t i j)), some (false, .ilist b0), none] = some (.tup [.int 2, .int 3]) := by
          simp only [U7, K8, K9, K7]; rw [if_pos (len2 _ _)]
        rw [K0, ht]
        have hit : Ff (.tup [.int 2, .int 3]) = some [.int 2, .int 3] := rfl
        simp only [hit]
        rw [Fs (σ' := [some (false, .ilist a), some (false, .int k), some (false, .int l), some (false, .int t), some (false, .tup [.int i, .int j]), some (false, .ilist w), some (false, .ilist w), some (false, .bool (Dx k l t i j)), some (false, .ilist (q.getD [])), some (false, .bool (!Dx k l t i j)), some (false, .ilist b1), some (false, .int 2)]) (by
          simp only [V7, V8]
          exact step_best (by decide) hl0 hb1)]
        rw [Fs (σ' := [some (false, .ilist a), some (false, .int k), some (false, .int l), some (false, .int t), some (false, .tup [.int i, .int j]), some (false, .ilist w), some (false, .ilist w), some (false, .bool (Dx k l t i j)), some (false, .ilist (q.getD [])), some (false, .bool (!Dx k l t i j)), some (false, .ilist b2), some (false, .int 3)]) (by
          simp only [V7, V8]
          exact step_best (by decide) hl1 hb2)]
        rw [f_nil])]
      generalize hbb : (if l = 10 then (if k < 0 then a.map (- ·) else a) else b2) = bb at *
      rw [Ag (σ' := [some (false, .ilist a), some (false, .int k), some (false, .int l), some (false, .int t), some (false, .tup [.int i, .int j]), some (false, .ilist w), some (false, .ilist w), some (false, .bool (Dx k l t i j)), some (false, .ilist (q.getD [])), some (false, .bool (!Dx k l t i j)), some (false, .ilist bb), some (false, .int 3)]) (by
        rw [← hbb]
        by_cases h10 : l = 10
        · have b10' : (l == 10) = true := by simpa using h10
          rw [if_pos h10]
          by_cases hk : k < 0
          · rw [if_pos hk]
            have hcomp2 := Gr (G := G) (F := F) (σ := [some (false, .ilist a), some (false, .int k), some (false, .int l), some (false, .int t), some (false, .tup [.int i, .int j]), some (false, .ilist w), some (false, .ilist w), some (false, .bool (Dx k l t i j)), some (false, .ilist (q.getD [])), some (false, .bool (!Dx k l t i j)), some (false, .ilist a), some (false, .int 3)]) (elt := .neg (.rd 12)) (z := a) (- ·) (fun c hc => by
              simp only [List.cons_append, List.nil_append, Q1, Q4, V3, V5, V6])
            have hla : (a.map AV.int).length ≤ LIM := by simpa using la
            simp only [J0, J1, J3, J8, K6, K9, Q1, Q8, U2, V1, V3, V5, V6, V7, V8, V9, W0, Co, Dt, Dp, Cl, eq_int, b10', hk, decide_true, Bj, hla, if_true, hcomp2, Fb]
          · rw [if_neg hk]
            simp only [J0, J1, J3, J8, K6, K9, Q1, Q8, U2, V3, V5, V6, V7, V8, V9, W0, Co, Dt, Dp, Cl, eq_int, b10', hk, decide_false]
        · have b10' : (l == 10) = false := by simpa using h10
          rw [if_neg h10]
          simp only [J0, J8, K6, K9, Q1, Q8, V3, V5, V6, V9, W0, Co, Dt, eq_int, b10'])]
      have h19' := h19 _ _ _ gc
      refine ⟨[some (false, .ilist a), some (false, .int k), some (false, .int l), some (false, .int t), some (false, .tup [.int i, .int j]), some (false, .ilist w), some (false, .ilist w), some (false, .bool (Dx k l t i j)), some (false, .ilist (q.getD [])), some (false, .bool (!Dx k l t i j)), some (false, .ilist bb), some (false, .int 3)], ?_⟩
      simp only [J0, J1, J8, K1, K6, K7, K8, K9, Q0, Q1, Q7, Q8, U1, V3, V4, V5, V6, V9, W0, Co, Dn, h19', Du, beq_self_eq_true, Bool.not_true]
    · cases bst
  · cases bst
end
end Mine
end
section
open PySem
namespace Mine
set_option tactic.hygienic false
set_option autoImplicit false
abbrev Pr := AV × List Int × Int
noncomputable def Fv (p : Pr) : AV := .tup [p.1, .int p.2.2]
noncomputable def Jn : List Pr → Int → List Int → Option (List Int)
  | [], _, part => some part
  | p :: r, often, part => if p.2.2 = often then (match Hz part p.2.1 with
      | some part' => Jn r often part'
      | none => none)
    else Jn r often part
noncomputable def powT (part : List Int) : Nat → List Int → Option (List Int)
  | 0, a => some a
  | n + 1, a => match Hz a part with
    | some a' => powT part n a'
    | none => none
noncomputable def Hl (ps : List Pr) : List Int → List Int → List (List Int × Int) → Option (List Int × List (List Int × Int))
  | [], a, want => some (a, want)
  | o :: os, a, want => match Jn ps o [1] with
    | some part => if 1 < part.length then (if LIM ≤ want.length ∨ ¬ (0 ≤ o ∧ o ≤ 100) then none else (match powT part o.toNat a with
        | some a' => Hl ps os a' (want ++ [(part, o)])
        | none => none)) else Hl ps os a want
    | none => none
section
variable {G : Str → Option AV} {F : Nat → List AV → Option Res} {N : Nat}
variable {c0 c1 c2 c3 c4 c5 c6 c7 c8 c9 c10 c11 c12 c13 c14 c15 c16 c17 : Option (Bool × AV)}
set_option tactic.hygienic true in
theorem for_part (h21 : ∀ f gv g r, Seq gv g → Hz f g = some r → F 21 [.ilist f, gv] = some (.val (.ilist r))) {o : Int} : ∀ (ps : List Pr) (part r : List Int) (fv tv : Option (Bool × AV)), (∀ p ∈ ps, Seq p.1 p.2.1) → Jn ps o part = some r → ∃ fv' tv',
    Dy [12, 13] (Ah G F N b29d1) (ps.map Fv) [c0, c1, c2, c3, c4, c5, c6, c7, c8, c9, some (false, .int o), some (false, .ilist part), fv, tv, c14, c15, c16, c17] = some (.next, [c0, c1, c2, c3, c4, c5, c6, c7, c8, c9, some (false, .int o), some (false, .ilist r), fv', tv', c14, c15, c16, c17])
  | [], part, r, fv, tv, _, h => by simp only [Jn, Option.some.injEq] at h; subst h; exact ⟨fv, tv, rfl⟩
  | (gv, g, t) :: ps, part, r, fv, tv, hs, h => by
    simp only [Jn] at h
    have hg := hs (gv, g, t) List.mem_cons_self
    have hs' : ∀ p ∈ ps, Seq p.1 p.2.1 := fun p hp => hs p (List.mem_cons_of_mem _ hp)
    split at h
    · rename_i ht
      split at h
      · rename_i part' hp
        obtain ⟨fv', tv', ih⟩ := for_part h21 ps part' r (some (false, gv)) (some (false, .int t)) hs' h
        refine ⟨fv', tv', ?_⟩
        rw [List.map_cons, ← ih]
        refine f_next2 ?_
        have hb : (t == o) = true := by simpa using ht
        simp only [b29d1, J0, J1, J3, J8, K6, K7, K8, Q0, Q1, Q8, U1, V3, V4, V5, V6, V7, V8, V9, W0, Co, Dt, eq_int, hb, h21 part gv g part' hg hp]
      · cases h
    · rename_i ht
      obtain ⟨fv', tv', ih⟩ := for_part h21 ps part r (some (false, gv)) (some (false, .int t)) hs' h
      refine ⟨fv', tv', ?_⟩
      rw [List.map_cons, ← ih]
      refine f_next2 ?_
      have hb : (t == o) = false := by simpa using ht
      simp only [b29d1, J0, J1, J8, K6, Q1, Q8, V3, V5, V6, V7, V8, V9, W0, Co, Dt, eq_int, hb]
set_option tactic.hygienic true in
theorem for_powT (h21 : ∀ f gv g r, Seq gv g → Hz f g = some r → F 21 [.ilist f, gv] = some (.val (.ilist r))) {part : List Int} : ∀ (n : Nat) (is : List Nat) (a r : List Int) (tv : Option (Bool × AV)), is.length = n → powT part n a = some r → ∃ tv',
    Dy [14] (Ah G F N b29d2) (is.map fun (i : Nat) => AV.int (i : Int)) [c0, c1, c2, c3, c4, c5, c6, c7, some (false, .ilist a), c9, c10, some (false, .ilist part), c12, c13, tv, c15, c16, c17] = some (.next, [c0, c1, c2, c3, c4, c5, c6, c7, some (false, .ilist r), c9, c10, some (false, .ilist part), c12, c13, tv', c15, c16, c17])
  | 0, is, a, r, tv, hl, h => by
    have : is = [] := List.eq_nil_of_length_eq_zero hl
    subst this
    simp only [powT, Option.some.injEq] at h; subst h
    exact ⟨tv, rfl⟩
  | n + 1, [], a, r, tv, hl, h => by simp at hl
  | n + 1, i :: is, a, r, tv, hl, h => by
    simp only [powT] at h
    split at h
    · rename_i a' ha'
      obtain ⟨tv', ih⟩ := for_powT h21 n is a' r (some (false, .int (i : Int))) (by simpa using hl) h
      refine ⟨tv', ?_⟩
      rw [List.map_cons, ← ih]
      refine Fs ?_
      simp only [b29d2, J0, J1, J3, K7, K8, Q0, U1, V4, V5, V6, V7, V8, h21 a (.ilist part) part a' (.inl rfl) ha']
    · cases h
set_option tactic.hygienic true in
theorem for_build (h21 : ∀ f gv g r, Seq gv g → Hz f g = some r → F 21 [.ilist f, gv] = some (.val (.ilist r))) {ps : List Pr} {PV : AV} (hP : Ff PV = some (ps.map Fv)) (hs : ∀ p ∈ ps, Seq p.1 p.2.1) :
    ∀ (os : List Int) (a : List Int) (want : List (List Int × Int)) (r : List Int × List (List Int × Int)) (c10 c11 c12 c13 c14 : Option (Bool × AV)), Hl ps os a want = some r → ∃ c10' c11' c12' c13' c14',
    Dy [10] (Ah G F N b29d0) (os.map AV.int) [c0, c1, c2, c3, c4, c5, c6, some (false, PV), some (false, .ilist a), some (true, Ak want), c10, c11, c12, c13, c14, c15, c16, c17] = some (.next, [c0, c1, c2, c3, c4, c5, c6, some (false, PV), some (false, .ilist r.1), some (true, Ak r.2), c10', c11', c12', c13', c14', c15, c16, c17])
  | [], a, want, r, c10, c11, c12, c13, c14, h => by simp only [Hl, Option.some.injEq] at h; subst h; exact ⟨c10, c11, c12, c13, c14, rfl⟩
  | o :: os, a, want, r, c10, c11, c12, c13, c14, h => by
    have hL : LIM = 1048576 := rfl
    simp only [Hl] at h
    split at h
    · rename_i part hpart
      obtain ⟨fv₁, tv₁, hp⟩ := for_part (G := G) (N := N) (c0 := c0) (c1 := c1) (c2 := c2) (c3 := c3) (c4 := c4) (c5 := c5) (c6 := c6) (c7 := some (false, PV)) (c8 := some (false, .ilist a)) (c9 := some (true, Ak want)) (c14 := c14) (c15 := c15) (c16 := c16) (c17 := c17) h21 ps [1] part c12 c13 hs hpart
      have s1 : ∀ rest, Ah G F N (.seq (.assign 11 (.list (.cons (.lit (.int 1)) .nil))) (.seq (.for [12, 13] (.var 7) b29d1) rest)) [c0, c1, c2, c3, c4, c5, c6, some (false, PV), some (false, .ilist a), some (true, Ak want), some (false, .int o), c11, c12, c13, c14, c15, c16, c17] =
          Ah G F N rest [c0, c1, c2, c3, c4, c5, c6, some (false, PV), some (false, .ilist a), some (true, Ak want), some (false, .int o), some (false, .ilist part), fv₁, tv₁, c14, c15, c16, c17] := fun rest => by
        rw [Ag (σ' := [c0, c1, c2, c3, c4, c5, c6, some (false, PV), some (false, .ilist a), some (true, Ak want), some (false, .int o), some (false, .ilist [1]), c12, c13, c14, c15, c16, c17]) (by
          simp only [J3, U6, K8, K9, K7, List.length_cons, List.length_nil, mkL1]
          rw [if_pos (by decide)]
          simp only [V7, V8])]
        rw [Ag (by simp only [K0, Q0, V4, V5, V6, hP]; exact hp)]
      split at h
      · rename_i hlp
        have hd : decide ((part.length : Int) > 1) = true := by simp only [gt_iff_lt, decide_eq_true_eq]; exact ZS ‹_›
        split at h
        · cases h
        · rename_i hcond
          simp only [not_or, Nat.not_le, Classical.not_not] at hcond
          obtain ⟨hwl, ho⟩ := hcond
          split at h
          · rename_i a' ha'
            obtain ⟨tv₂, hpw⟩ := for_powT (G := G) (N := N) (c0 := c0) (c1 := c1) (c2 := c2) (c3 := c3) (c4 := c4) (c5 := c5) (c6 := c6) (c7 := some (false, PV)) (c9 := some (true, Ak (want ++ [(part, o)]))) (c10 := some (false, .int o)) (c12 := fv₁) (c13 := tv₁) (c15 := c15) (c16 := c16) (c17 := c17) h21 o.toNat (List.range o.toNat) a a' c14 (by simp) ha'
            obtain ⟨d10, d11, d12, d13, d14, ih⟩ := for_build h21 hP hs os a' (want ++ [(part, o)]) r (some (false, .int o)) (some (false, .ilist part)) fv₁ tv₁ tv₂ h
            refine ⟨d10, d11, d12, d13, d14, ?_⟩
            rw [List.map_cons, ← ih]
            refine Fs ?_
            simp only [V7, V8, b29d0]
            rw [s1]
            have e1 : o = ((o.toNat : Nat) : Int) := by exact ZG ‹_›
            have hit := Ek o.toNat (by lia)
            rw [← e1] at hit
            have hap := append_out want (part, o) hwl
            have s2 : Ah G F N (.seq (.append 9 (.tup (.cons (.var 11) (.cons (.var 10) .nil)))) (.seq (.for [14] (.range (.lit (.int 0)) (.rd 10) (.lit (.int 1))) b29d2) .skip)) [c0, c1, c2, c3, c4, c5, c6, some (false, PV), some (false, .ilist a), some (true, Ak want), some (false, .int o), some (false, .ilist part), fv₁, tv₁, c14, c15, c16, c17] =
                some (.next, [c0, c1, c2, c3, c4, c5, c6, some (false, PV), some (false, .ilist a'), some (true, Ak (want ++ [(part, o)])), some (false, .int o), some (false, .ilist part), fv₁, tv₁, tv₂, c15, c16, c17]) := by
              rw [Ag (σ' := [c0, c1, c2, c3, c4, c5, c6, some (false, PV), some (false, .ilist a), some (true, Ak (want ++ [(part, o)])), some (false, .int o), some (false, .ilist part), fv₁, tv₁, c14, c15, c16, c17]) (by
                simp only [J7, U7, K8, Q0, K7, V4, V5, V6]
                rw [if_pos (len2 _ _)]
                simp only [hap, V7, V8])]
              rw [Ag (by
                simp only [K0, V2, K9, Q1, V3, V5, V6, hit, Es]
                exact hpw)]
              rw [J0]
            rw [Ag (by
              rw [J8]
              have ht : Bb G F (.cmp .gt (.f1 .len (.rd 11)) (.lit (.int 1))) [c0, c1, c2, c3, c4, c5, c6, some (false, PV), some (false, .ilist a), some (true, Ak want), some (false, .int o), some (false, .ilist part), fv₁, tv₁, c14, c15, c16, c17] = some true := by simp only [K6, K9, Q1, Q8, U2, V3, V5, V6, V9, W0, Co, Dr, Bv, hd]
              rw [ht]
              exact s2)]
            rw [J0]
          · cases h
      · rename_i hlp
        have hd : decide ((part.length : Int) > 1) = false := by simp only [gt_iff_lt, decide_eq_false_iff_not]; exact mt Int.ofNat_lt.mp ‹_›
        obtain ⟨d10, d11, d12, d13, d14, ih⟩ := for_build h21 hP hs os a want r (some (false, .int o)) (some (false, .ilist part)) fv₁ tv₁ c14 h
        refine ⟨d10, d11, d12, d13, d14, ?_⟩
        rw [List.map_cons, ← ih]
        refine Fs ?_
        simp only [V7, V8, b29d0]
        rw [s1]
        simp only [J0, J1, J8, K6, K9, Q1, Q8, U2, V3, V5, V6, V9, W0, Co, Dr, Bv, hd]
    · cases h
end
end Mine
end
section
open PySem
namespace Mine
set_option tactic.hygienic false
set_option autoImplicit false
noncomputable def strRep (c : Nat) (n : Int) : List Nat := (List.replicate n.toNat [c]).flatten
noncomputable def pairsOf (u v : List Int) (e : Int) (same : Bool) : List Pr := if same then [(.tup (u.map .int), u, 1 + e)] else [(.tup (u.map .int), u, 1), (.tup (v.map .int), v, e)]
noncomputable def tOf (n : Int) : Int := ([-2, -1, 1, 2, 3] : List Int).getD n.toNat 0
structure LawOk (F : Nat → List AV → Option Res) (P : List (List Int)) (s : List Int) (u v a0 a more : List Int) (want : List (List Int × Int)) (x y val : Int) : Prop where
  len : 15 ≤ s.length
  hu : P[((s.getD 0 0).fmod 10).toNat]? = some u
  hv : P[((s.getD 1 0).fmod 7).toNat]? = some v
  hb : Hl (pairsOf u v (1 + (s.getD 2 0).fmod 3) ((s.getD 0 0).fmod 10 == (s.getD 1 0).fmod 7)) [1, 2, 3, 4] [(s.getD 3 0).fmod 9 - 4] [] = some (a0, want)
  ha : a = if (s.getD 3 0).fmod 9 - 4 = 0 then [] else a0
  t26 : F 26 [.ilist a, .str (strRep 32 ((s.getD 4 0).fmod 3)), .str (strRep 48 ((s.getD 5 0).fmod 2)), .int ((s.getD 6 0).fmod 7 - 3), .int ((s.getD 7 0).fmod 12), .int ((s.getD 8 0).fmod 2), .int ((s.getD 9 0).fmod 12), .int (s.getD 10 0), .int ((s.getD 11 0).fmod 4)] = some (.val (.bool true))
  t27 : F 27 [.ilist a, .int ((s.getD 3 0).fmod 9 - 4), Ak want] = some (.val (.bool true))
  t28 : F 28 [.ilist a, .int ((s.getD 3 0).fmod 9 - 4), .int ((s.getD 12 0).fmod 11), .int (tOf ((s.getD 13 0).fmod 5)), .tup [.int ((s.getD 0 0).fmod 10), .int ((s.getD 1 0).fmod 7)]] = some (.val (.bool true))
  hm : multiply a [-(s.getD 14 0), 1] = some more
  hval : value more (s.getD 14 0 + 1) = some val
  hx : atO u (s.getD 14 0 + 1) = some x
  hy : atO v (s.getD 14 0 + 1) = some y
  m1 : Bd ((s.getD 3 0).fmod 9 - 4) x = true
  pw : 0 ≤ 1 + (s.getD 2 0).fmod 3 ∧ (Builtin.Int.intBits y : Int) * (1 + (s.getD 2 0).fmod 3) ≤ 2 ^ 27
  m2 : Bd (((s.getD 3 0).fmod 9 - 4) * x) (y ^ (1 + (s.getD 2 0).fmod 3).toNat) = true
  eqv : val = ((s.getD 3 0).fmod 9 - 4) * x * y ^ (1 + (s.getD 2 0).fmod 3).toNat
  dv : En more [-(s.getD 14 0), 1] = some (some a)
section
variable {G : Str → Option AV} {F : Nat → List AV → Option Res} {N : Nat}
theorem ev_mod {s : List Int} {σ : St} (h0 : σ[0]? = some (some (false, .ilist s))) (n : Nat) (hn : n < s.length) {c : Int} (hc : c ≠ 0) : Ae G F (.bin .mod (.idx (.rd 0) (.lit (.int (n : Int)))) (.lit (.int c))) σ = some (.int ((s.getD n 0).fmod c)) := by
  have hx := getD_some hn
  simp only [Q3, U3, Q1, K9, V3, h0, Ay, Bh, hx, V9, Cw]
  rw [if_neg hc]
theorem ev_at {s : List Int} {σ : St} (h0 : σ[0]? = some (some (false, .ilist s))) (n : Nat) (hn : n < s.length) : Ae G F (.idx (.rd 0) (.lit (.int (n : Int)))) σ = some (.int (s.getD n 0)) := by
  have hx := getD_some hn
  simp only [U3, Q1, K9, V3, h0, Ay, Bh, hx, V9]
theorem Hr {s : List Int} {σ : St} (h0 : σ[0]? = some (some (false, .ilist s))) (n : Nat) {m : Int} (hm : m = (n : Int)) (hn : n < s.length) {c : Int} (hc : c ≠ 0) : Ae G F (.bin .mod (.idx (.rd 0) (.lit (.int m))) (.lit (.int c))) σ = some (.int ((s.getD n 0).fmod c)) := by
  subst hm; exact ev_mod h0 n hn hc
theorem ev_at' {s : List Int} {σ : St} (h0 : σ[0]? = some (some (false, .ilist s))) (n : Nat) {m : Int} (hm : m = (n : Int)) (hn : n < s.length) : Ae G F (.idx (.rd 0) (.lit (.int m))) σ = some (.int (s.getD n 0)) := by
  subst hm; exact ev_at h0 n hn
theorem ev_rep {σ : St} {ch : Nat} {m : ME} {n : Int} (h : Ae G F m σ = some (.int n)) (h0 : 0 ≤ n) (h1 : n ≤ 100) : Ae G F (.bin .mul (.lit (.str [ch])) m) σ = some (.str (strRep ch n)) := by
  have hL : LIM = 1048576 := rfl
  simp only [Q3, K9, h, Cp, List.length_cons, List.length_nil]
  rw [if_pos ⟨h0, by lia, by lia⟩]; rfl
theorem ev_subI {σ : St} {m : ME} {n c : Int} (h : Ae G F m σ = some (.int n)) : Ae G F (.bin .sub m (.lit (.int c))) σ = some (.int (n - c)) := by
  simp only [Q3, K9, h, Ct]
theorem Jt (x : Int) {c : Int} (hc : 0 < c) : 0 ≤ x.fmod c ∧ x.fmod c < c := ⟨Int.fmod_nonneg_of_pos _ hc, Int.fmod_lt_of_pos _ hc⟩
theorem run_law_short (s : List Int) (h : s.length < 15) {c1 c2 c3 c4 c5 c6 c7 c8 c9 c10 c11 c12 c13 c14 c15 c16 c17 : Option (Bool × AV)} : ∃ σ', Ah G F N b29.body [some (false, .ilist s), c1, c2, c3, c4, c5, c6, c7, c8, c9, c10, c11, c12, c13, c14, c15, c16, c17] = some (.ret (.bool true), σ') := by
  have hd : decide ((s.length : Int) < 15) = true := by simp only [decide_eq_true_eq]; lia
  exact ⟨_, Kj (σ' := [some (false, .ilist s), c1, c2, c3, c4, c5, c6, c7, c8, c9, c10, c11, c12, c13, c14, c15, c16, c17]) (by first | exact rfl | simp only [J1, J8, K1, K6, K9, Q1, Q8, U2, V3, V5, V9, W0, Co, Dp, Bv, hd])⟩
theorem run_law (h21 : ∀ f gv g r, Seq gv g → Hz f g = some r → F 21 [.ilist f, gv] = some (.val (.ilist r))) (h13 : ∀ a b r, multiply a b = some r → F 13 [.ilist a, .ilist b] = some (.val (.ilist r))) (h15 : ∀ a n v, value a n = some v → F 15 [.ilist a, .int n] = some (.val (.int v)))
    (h16 : ∀ a b r, En a b = some r → F 16 [.ilist a, .ilist b] = some (exR r)) (h22 : ∀ fv f x v, Seq fv f → atO f x = some v → F 22 [fv, .int x] = some (.val (.int v)))
    {P : List (List Int)} (hG : G (Str.ofString "_law_PARTS") = some (.tup (P.map fun p => .tup (p.map .int)))) {s u v a0 a more : List Int} {want : List (List Int × Int)} {x y val : Int} (ok : LawOk F P s u v a0 a more want x y val) :
    ∃ σ', Ah G F N b29.body [some (false, .ilist s), none, none, none, none, none, none, none, none, none, none, none, none, none, none, none, none, none] = some (.ret (.bool true), σ') := by
  have hL : LIM = 1048576 := rfl
  obtain ⟨len, hu, hv, hb, ha, t26, t27, t28, hm, hval, hx, hy, m1, pw, m2, eqv, dv⟩ := ok
  generalize hi : (s.getD 0 0).fmod 10 = i at *
  generalize hj : (s.getD 1 0).fmod 7 = j at *
  generalize he : 1 + (s.getD 2 0).fmod 3 = e at *
  generalize hk : (s.getD 3 0).fmod 9 - 4 = k at *
  have i0 : 0 ≤ i := by rw [← hi]; exact Int.fmod_nonneg_of_pos _ (by decide)
  have j0 : 0 ≤ j := by rw [← hj]; exact Int.fmod_nonneg_of_pos _ (by decide)
  have idxP : ∀ (n : Int) (p : List Int), 0 ≤ n → P[n.toNat]? = some p → Ay (.tup (P.map fun p => .tup (p.map .int))) (.int n) = some (.tup (p.map .int)) := fun n p h0 h1 => by
    have e1 : n = ((n.toNat : Nat) : Int) := by exact (Int.toNat_of_nonneg ‹_›).symm
    rw [e1]
    simp only [Ay, Bh, List.getElem?_map, h1, V9]
  have hpu := idxP i u i0 hu
  have hpv := idxP j v j0 hv
  generalize hps : pairsOf u v e (i == j) = ps at *
  have hseq : ∀ p ∈ ps, Seq p.1 p.2.1 := by
    rw [← hps]; unfold pairsOf
    intro p hp
    split at hp
    · simp only [List.mem_cons, List.not_mem_nil, or_false] at hp; subst hp; exact .inr rfl
    · simp only [List.mem_cons, List.not_mem_nil, or_false] at hp
      rcases hp with rfl | rfl <;> exact .inr rfl
  have hmkP : ∀ (x : AV) (r : List AV), mkL (.tup [x, .int 0] :: r) = .list (.tup [x, .int 0] :: r) := fun _ _ => rfl
  have d15 : decide ((s.length : Int) < 15) = false := by simp only [decide_eq_false_iff_not]; exact mt Int.ofNat_lt.mp (Nat.not_lt_of_le ‹_›)
  simp only [b29]
  rw [Ag (σ' := [some (false, .ilist s), none, none, none, none, none, none, none, none, none, none, none, none, none, none, none, none, none]) (by first | exact rfl | simp only [J0, J8, K6, K9, Q1, Q8, U2, V3, V5, V9, W0, Co, Dp, Bv, d15])]
  rw [Ag (σ' := [some (false, .ilist s), some (false, .int i), none, none, none, none, none, none, none, none, none, none, none, none, none, none, none, none]) (by
    have := ev_mod (G := G) (F := F) (s := s) (σ := [some (false, .ilist s), none, none, none, none, none, none, none, none, none, none, none, none, none, none, none, none, none]) rfl 0 (by lia) (c := 10) (by decide)
    rw [hi] at this
    rw [J3]; erw [this]; rfl)]
  rw [Ag (σ' := [some (false, .ilist s), some (false, .int i), some (false, .int j), none, none, none, none, none, none, none, none, none, none, none, none, none, none, none]) (by
    have := ev_mod (G := G) (F := F) (s := s) (σ := [some (false, .ilist s), some (false, .int i), none, none, none, none, none, none, none, none, none, none, none, none, none, none, none, none]) rfl 1 (by lia) (c := 7) (by decide)
    rw [hj] at this
    rw [J3]; erw [this]; rfl)]
  rw [Ag (σ' := [some (false, .ilist s), some (false, .int i), some (false, .int j), some (false, .int e), none, none, none, none, none, none, none, none, none, none, none, none, none, none]) (by
    have := ev_mod (G := G) (F := F) (s := s) (σ := [some (false, .ilist s), some (false, .int i), some (false, .int j), none, none, none, none, none, none, none, none, none, none, none, none, none, none, none]) rfl 2 (by lia) (c := 3) (by decide)
    rw [J3, Q3, K9]; erw [this]
    simp only [Cy, he]; rfl)]
  rw [Ag (σ' := [some (false, .ilist s), some (false, .int i), some (false, .int j), some (false, .int e), some (false, .int k), none, none, none, none, none, none, none, none, none, none, none, none, none]) (by
    have := ev_mod (G := G) (F := F) (s := s) (σ := [some (false, .ilist s), some (false, .int i), some (false, .int j), some (false, .int e), none, none, none, none, none, none, none, none, none, none, none, none, none, none]) rfl 3 (by lia) (c := 9) (by decide)
    rw [J3, Q3, K9]; erw [this]
    simp only [Ct, hk]; rfl)]
  rw [Ag (σ' := [some (false, .ilist s), some (false, .int i), some (false, .int j), some (false, .int e), some (false, .int k), some (false, .tup (u.map .int)), none, none, none, none, none, none, none, none, none, none, none, none]) (by
    simp only [J3, U3, Q2, hG, Q1, V3, V5, V6, hpu, V7, V8])]
  rw [Ag (σ' := [some (false, .ilist s), some (false, .int i), some (false, .int j), some (false, .int e), some (false, .int k), some (false, .tup (u.map .int)), some (false, .tup (v.map .int)), none, none, none, none, none, none, none, none, none, none, none]) (by
    simp only [J3, U3, Q2, hG, Q1, V3, V5, V6, hpv, V7, V8])]
  rw [Ag (σ' := [some (false, .ilist s), some (false, .int i), some (false, .int j), some (false, .int e), some (false, .int k), some (false, .tup (u.map .int)), some (false, .tup (v.map .int)), some (false, .list [.tup [.tup (u.map .int), .int 1], .tup [.tup (v.map .int), .int e]]), none, none, none, none, none, none, none, none, none, none]) (by
    simp only [J3, U6, K8, U7, Q0, K9, K7, V4, V5, V6]
    rw [if_pos (len2 _ _), if_pos (len2 _ _)]
    simp only
    rw [if_pos (len2 _ _)]
    rfl)]
  rw [Ag (σ' := [some (false, .ilist s), some (false, .int i), some (false, .int j), some (false, .int e), some (false, .int k), some (false, .tup (u.map .int)), some (false, .tup (v.map .int)), some (false, .list (ps.map Fv)), none, none, none, none, none, none, none, none, none, none]) (by
    rw [← hps]; unfold pairsOf
    cases hij : (i == j) with
    | true =>
      simp only [if_true]
      simp only [J8, K6, Q8, Q1, V3, V5, V6, Dt, eq_int, hij, V9, W0, Co, J1, J3, J0, U6, K8, U7, Q0, Q3, K9, K7, V4, Cy]
      rw [if_pos (len2 _ _)]
      simp only [List.length_cons, List.length_nil]
      rw [if_pos (by decide)]
      rfl
    | false =>
      simp only [Bool.false_eq_true, if_false]
      simp only [J8, K6, Q8, Q1, V3, V5, V6, Dt, eq_int, hij, V9, W0, Co, J0]
      rfl)]
  have hitP : Ff (.list (ps.map Fv)) = some (ps.map Fv) := rfl
  obtain ⟨d10, d11, d12, d13, d14, hbuild⟩ := for_build (G := G) (N := N) (c0 := some (false, .ilist s)) (c1 := some (false, .int i)) (c2 := some (false, .int j)) (c3 := some (false, .int e)) (c4 := some (false, .int k)) (c5 := some (false, .tup (u.map .int))) (c6 := some (false, .tup (v.map .int))) (c15 := none) (c16 := none) (c17 := none) h21 hitP hseq [1, 2, 3, 4] [k] [] _ none none none none none hb
  rw [Ag (σ' := [some (false, .ilist s), some (false, .int i), some (false, .int j), some (false, .int e), some (false, .int k), some (false, .tup (u.map .int)), some (false, .tup (v.map .int)), some (false, .list (ps.map Fv)), some (false, .ilist [k]), none, none, none, none, none, none, none, none, none]) (by
    simp only [J3, U6, K8, Q0, K7, V4, V5, V6, List.length_cons, List.length_nil, mkL1]
    rw [if_pos (by decide)]
    rfl)]
  rw [Ag (σ' := [some (false, .ilist s), some (false, .int i), some (false, .int j), some (false, .int e), some (false, .int k), some (false, .tup (u.map .int)), some (false, .tup (v.map .int)), some (false, .list (ps.map Fv)), some (false, .ilist [k]), some (true, .ilist []), none, none, none, none, none, none, none, none]) (by
    simp only [J5, K7, V7, V8, List.length_nil, Nat.zero_le, if_true, mkL0])]
  rw [Ag (σ' := [some (false, .ilist s), some (false, .int i), some (false, .int j), some (false, .int e), some (false, .int k), some (false, .tup (u.map .int)), some (false, .tup (v.map .int)), some (false, .list (ps.map Fv)), some (false, .ilist a0), some (true, Ak want), d10, d11, d12, d13, d14, none, none, none]) (by
    have hr : Ex 1 5 1 = [1, 2, 3, 4] := by decide
    simp only [K0, V2, K9]
    rw [if_pos ⟨.inl trivial, by decide, by decide, by decide, by decide⟩, hr]
    exact hbuild)]
  rw [Ag (σ' := [some (false, .ilist s), some (false, .int i), some (false, .int j), some (false, .int e), some (false, .int k), some (false, .tup (u.map .int)), some (false, .tup (v.map .int)), some (false, .list (ps.map Fv)), some (false, .ilist a), some (true, Ak want), d10, d11, d12, d13, d14, none, none, none]) (by
    rw [ha]
    by_cases k0 : k = 0
    · have bk : (k == 0) = true := by simpa using k0
      rw [if_pos k0]
      simp only [J0, J1, J3, J8, K6, K7, K9, Q1, Q8, U6, V3, V5, V6, V7, V8, V9, W0, Co, Dt, eq_int, bk, List.length_nil, Nat.zero_le, if_true, mkL0]
    · have bk : (k == 0) = false := by simpa using k0
      rw [if_neg k0]
      simp only [J0, J8, K6, K9, Q1, Q8, V3, V5, V6, V9, W0, Co, Dt, eq_int, bk])]
  rw [Ag (σ' := [some (false, .ilist s), some (false, .int i), some (false, .int j), some (false, .int e), some (false, .int k), some (false, .tup (u.map .int)), some (false, .tup (v.map .int)), some (false, .list (ps.map Fv)), some (false, .ilist a), some (true, Ak want), d10, d11, d12, d13, d14, some (false, .ilist a), none, none]) (by first | exact rfl | simp only [J0, J1, J2, J3, J4, J5, J6, J7, J8, J9, K0, K1, K2, K3, K4, K5, K6, K7, K8, K9, Q0, Q1, Q2, Q3, Q4, Q5, Q6, Q7, Q8, Q9, U0, U1, U2, U3, U4, U5, U6, U7, U8, U9, V0, V1, V2, V3, V4, V5, V6, V7, V8, V9, W0, Cm, Co, Cs, Cr, Cf, Cn, Cy, Cu, Dm, Dj, Dl, Dk, Ct, Cq, Cp, Cc, Cg, Cz, Cw, Cv, Dt, Dn, Dp, Dq, Dr, Ds, Da, Db, Dc, Dd, Ci, Ch, Ce, Cd, Bz, Bx, By, Bu, Bq, Br, Bt, Bs, Bp, Bm, Bn, Bo, Do, Cb, Bv, Bw, Ca, Di, Cl, Ck, Cj, De, Df, Dh])]
  clear hbuild ha hb
  rw [Ag (σ' := [some (false, .ilist s), some (false, .int i), some (false, .int j), some (false, .int e), some (false, .int k), some (false, .tup (u.map .int)), some (false, .tup (v.map .int)), some (false, .list (ps.map Fv)), some (false, .ilist a), some (true, Ak want), d10, d11, d12, d13, d14, some (false, .ilist a), none, none]) (by
    generalize hσ : [some (false, AV.ilist s), some (false, .int i), some (false, .int j), some (false, .int e), some (false, .int k), some (false, .tup (u.map .int)), some (false, .tup (v.map .int)), some (false, .list (ps.map Fv)), some (false, .ilist a), some (true, Ak want), d10, d11, d12, d13, d14, some (false, .ilist a), none, none] = σ
    have z0 : σ[0]? = some (some (false, .ilist s)) := by rw [← hσ]; rfl
    have z8 : slotV σ 8 = some (.ilist a) := by rw [← hσ]; rfl
    have e4 := ev_rep (G := G) (F := F) (ch := 32) (Hr (G := G) (F := F) z0 4 (m := 4) rfl (by lia) (c := 3) (by decide)) (Jt _ (by decide)).1 (by have := (Jt (s.getD 4 0) (c := 3) (by decide)).2; lia)
    have e5 := ev_rep (G := G) (F := F) (ch := 48) (Hr (G := G) (F := F) z0 5 (m := 5) rfl (by lia) (c := 2) (by decide)) (Jt _ (by decide)).1 (by have := (Jt (s.getD 5 0) (c := 2) (by decide)).2; lia)
    have e6 := ev_subI (G := G) (F := F) (c := 3) (Hr (G := G) (F := F) z0 6 (m := 6) rfl (by lia) (c := 7) (by decide))
    have e7 := Hr (G := G) (F := F) z0 7 (m := 7) rfl (by lia) (c := 12) (by decide)
    have e8 := Hr (G := G) (F := F) z0 8 (m := 8) rfl (by lia) (c := 2) (by decide)
    have e9 := Hr (G := G) (F := F) z0 9 (m := 9) rfl (by lia) (c := 12) (by decide)
    have e10 := ev_at' (G := G) (F := F) z0 10 (m := 10) rfl (by lia)
    have e11 := Hr (G := G) (F := F) z0 11 (m := 11) rfl (by lia) (c := 4) (by decide)
    simp only [J8, K6, Q5, U1, K8, K7, Q0, z8, e4, e5, e6, e7, e8, e9, e10, e11, t26, Co, V9, W0, Bool.not_true, J0])]
  rw [Ag (σ' := [some (false, .ilist s), some (false, .int i), some (false, .int j), some (false, .int e), some (false, .int k), some (false, .tup (u.map .int)), some (false, .tup (v.map .int)), some (false, .list (ps.map Fv)), some (false, .ilist a), some (false, Ak want), d10, d11, d12, d13, d14, some (false, .ilist a), none, none]) (by
    simp only [J2, freeze, V5, V6, V7, V8, J8, K6, Q5, U1, K8, K7, Q0, V4, t27, Co, V9, W0, Bool.not_true, J0])]
  rw [Ag (σ' := [some (false, .ilist s), some (false, .int i), some (false, .int j), some (false, .int e), some (false, .int k), some (false, .tup (u.map .int)), some (false, .tup (v.map .int)), some (false, .list (ps.map Fv)), some (false, .ilist a), some (false, Ak want), d10, d11, d12, d13, d14, some (false, .ilist a), none, none]) (by
    generalize hσ : [some (false, AV.ilist s), some (false, .int i), some (false, .int j), some (false, .int e), some (false, .int k), some (false, .tup (u.map .int)), some (false, .tup (v.map .int)), some (false, .list (ps.map Fv)), some (false, .ilist a), some (false, Ak want), d10, d11, d12, d13, d14, some (false, .ilist a), none, none] = σ
    have z0 : σ[0]? = some (some (false, .ilist s)) := by rw [← hσ]; rfl
    have z8 : slotV σ 8 = some (.ilist a) := by rw [← hσ]; rfl
    have z4 : slotV σ 4 = some (.int k) := by rw [← hσ]; rfl
    have z1 : slotV σ 1 = some (.int i) := by rw [← hσ]; rfl
    have z2 : slotV σ 2 = some (.int j) := by rw [← hσ]; rfl
    have e12 := Hr (G := G) (F := F) z0 12 (m := 12) rfl (by lia) (c := 11) (by decide)
    have e13 := Hr (G := G) (F := F) z0 13 (m := 13) rfl (by lia) (c := 5) (by decide)
    have et : Ae G F (.tup (.cons (.neg (.lit (.int 2))) (.cons (.neg (.lit (.int 1))) (.cons (.lit (.int 1)) (.cons (.lit (.int 2)) (.cons (.lit (.int 3)) .nil)))))) σ = some (.tup [.int (-2), .int (-1), .int 1, .int 2, .int 3]) := rfl
    have eti : Ae G F (.idx (.tup (.cons (.neg (.lit (.int 2))) (.cons (.neg (.lit (.int 1))) (.cons (.lit (.int 1)) (.cons (.lit (.int 2)) (.cons (.lit (.int 3)) .nil)))))) (.bin .mod (.idx (.rd 0) (.lit (.int 13))) (.lit (.int 5)))) σ = some (.int (tOf ((s.getD 13 0).fmod 5))) := by
      rw [U3, et, e13]
      have hr := Jt (s.getD 13 0) (c := 5) (by decide)
      generalize (s.getD 13 0).fmod 5 = z at hr
      have : z = 0 ∨ z = 1 ∨ z = 2 ∨ z = 3 ∨ z = 4 := by lia
      rcases this with rfl | rfl | rfl | rfl | rfl <;> rfl
    have emi : Ae G F (.tup (.cons (.var 1) (.cons (.var 2) .nil))) σ = some (.tup [.int i, .int j]) := by
      simp only [U7, K8, Q0, K7, z1, z2]; rw [if_pos (len2 _ _)]
    simp only [J8, K6, Q5, U1, K8, K7, Q0, z8, z4, e12, eti, emi, t28, Co, V9, W0, Bool.not_true, J0])]
  rw [Ag (σ' := [some (false, .ilist s), some (false, .int i), some (false, .int j), some (false, .int e), some (false, .int k), some (false, .tup (u.map .int)), some (false, .tup (v.map .int)), some (false, .list (ps.map Fv)), some (false, .ilist a), some (false, Ak want), d10, d11, d12, d13, d14, some (false, .ilist a), some (false, .int (s.getD 14 0)), none]) (by
    rw [J3, ev_at' (s := s) (n := 14) (m := 14) rfl rfl (by exact Nat.lt_of_succ_le ‹_›)]
    rfl)]
  generalize s.getD 14 0 = n at *
  have hmk2 : ∀ p q : Int, mkL [.int p, .int q] = .ilist [p, q] := fun _ _ => rfl
  rw [Ag (σ' := [some (false, .ilist s), some (false, .int i), some (false, .int j), some (false, .int e), some (false, .int k), some (false, .tup (u.map .int)), some (false, .tup (v.map .int)), some (false, .list (ps.map Fv)), some (false, .ilist a), some (false, Ak want), d10, d11, d12, d13, d14, some (false, .ilist a), some (false, .int n), some (false, .ilist more)]) (by
    simp only [J3, U1, K8, K7, Q0, U6, Q4, Q1, K9, V4, V3, V5, V6]
    rw [if_pos (len2 _ _)]
    simp only [hmk2, h13 _ _ _ hm, V7, V8])]
  have su : Seq (.tup (u.map .int)) u := .inr rfl
  have sv : Seq (.tup (v.map .int)) v := .inr rfl
  rw [Ag (σ' := [some (false, .ilist s), some (false, .int i), some (false, .int j), some (false, .int e), some (false, .int k), some (false, .tup (u.map .int)), some (false, .tup (v.map .int)), some (false, .list (ps.map Fv)), some (false, .ilist a), some (false, Ak want), d10, d11, d12, d13, d14, some (false, .ilist a), some (false, .int n), some (false, .ilist more)]) (by
    have hpow : Ab .pow (.int y) (.int e) = some (.int (y ^ e.toNat)) := by simp only [Cv]; rw [if_pos pw]
    have hm1 : Ab .mul (.int k) (.int x) = some (.int (k * x)) := by simp only [Cq]; rw [if_pos m1]
    have hm2 : Ab .mul (.int (k * x)) (.int (y ^ e.toNat)) = some (.int (k * x * y ^ e.toNat)) := by simp only [Cq]; rw [if_pos m2]
    have hadd : Ab .add (.int n) (.int 1) = some (.int (n + 1)) := rfl
    have hne : Ad .ne (.int val) (.int (k * x * y ^ e.toNat)) = some false := by
      rw [eqv]
      show (some (_ == _)).map (!·) = _
      simp
    simp only [J8, K6, Q8, U1, K8, K7, Q0, Q3, Q1, K9, V4, V3, V5, V6, hadd, h15 _ _ _ hval, h22 _ _ _ _ su hx, h22 _ _ _ _ sv hy, hm1, hpow, hm2, hne, V9, W0, Co, J0])]
  rw [Ag (σ' := [some (false, .ilist s), some (false, .int i), some (false, .int j), some (false, .int e), some (false, .int k), some (false, .tup (u.map .int)), some (false, .tup (v.map .int)), some (false, .list (ps.map Fv)), some (false, .ilist a), some (false, Ak want), d10, d11, d12, d13, d14, some (false, .ilist a), some (false, .int n), some (false, .ilist more)]) (by
    have h16' := h16 _ _ _ dv
    have hne : Ad .ne (.ilist a) (.ilist a) = some false := by
      show (some (_ == _)).map (!·) = _
      simp
    simp only [J8, K6, Q7, Q8, U1, K8, K7, Q0, U6, Q4, Q1, K9, V4, V3, V5, V6]
    rw [if_pos (len2 _ _)]
    simp only [hmk2, h16', exR, hne, V9, W0, Co, J0])]
  exact ⟨_, Kj (σ' := [some (false, .ilist s), some (false, .int i), some (false, .int j), some (false, .int e), some (false, .int k), some (false, .tup (u.map .int)), some (false, .tup (v.map .int)), some (false, .list (ps.map Fv)), some (false, .ilist a), some (false, Ak want), d10, d11, d12, d13, d14, some (false, .ilist a), some (false, .int n), some (false, .ilist more)]) (by first | exact rfl | simp only [J0, J1, J2, J3, J4, J5, J6, J7, J8, J9, K0, K1, K2, K3, K4, K5, K6, K7, K8, K9, Q0, Q1, Q2, Q3, Q4, Q5, Q6, Q7, Q8, Q9, U0, U1, U2, U3, U4, U5, U6, U7, U8, U9, V0, V1, V2, V3, V4, V5, V6, V7, V8, V9, W0, Cm, Co, Cs, Cr, Cf, Cn, Cy, Cu, Dm, Dj, Dl, Dk, Ct, Cq, Cp, Cc, Cg, Cz, Cw, Cv, Dt, Dn, Dp, Dq, Dr, Ds, Da, Db, Dc, Dd, Ci, Ch, Ce, Cd, Bz, Bx, By, Bu, Bq, Br, Bt, Bs, Bp, Bm, Bn, Bo, Do, Cb, Bv, Bw, Ca, Di, Cl, Ck, Cj, De, Df, Dh])⟩
end
end Mine
end
section
open PySem
namespace Mine
set_option tactic.hygienic false
set_option autoImplicit false
noncomputable def Hv : AV → Nat
  | .int i => i.natAbs + 3
  | .str s => s.length + 3
  | .ilist l => l.length + 3
  | .list l => l.length + 3
  | .tup l => l.length + 3
  | _ => 3
noncomputable def Js (args : List AV) : Nat := (args.map Hv).sum
noncomputable def runG (G : Str → Option AV) (fs : List (Option MF)) : Nat → Nat → List AV → Option Res
  | 0, _, _ => none
  | k + 1, f, args => match fs[f]? with
    | some (some mf) => if args.length = mf.nargs then (match Ah G (runG G fs k) (Js args) mf.body (initS mf args) with
      | some (o, _) => Jd o
      | none => none) else none
    | _ => none
theorem fnv_cg {c : Cx} {g : Nat → List AV → Option Res} {f : Nat} {ps : List Str} {body : List Stmt} {sc : Scope} (h : FnV c f ps body sc) : FnV { c with F := g } f ps body sc := by
  obtain ⟨o, fd, h1, h2, h3, h4, h5, h6, h7, h8, h9⟩ := h
  exact ⟨o, fd, h1, h2, h3, h4, h5, h6, h7, h8, h9⟩
set_option tactic.hygienic true in
theorem run_okG {c : Cx} {fs : List (Option MF)} (ok : c.Ok) (ft : FnTab c fs) : ∀ (k f : Nat) (args : List AV) (r : Res), runG c.G fs k f args = some r → FnOk c k f args r
  | 0, f, args, r, h => by simp [runG] at h
  | k + 1, f, args, r, h => by
    simp only [runG] at h
    split at h
    · rename_i mf hm
      split at h
      · rename_i hl
        split at h
        · rename_i o σ' hrun
          obtain ⟨ps, mu, ap, as, body, sc, fi, hps, hnd, hc, hrf⟩ := ft.fn f mf hm
          have ih := run_okG ok ft k
          have fi' : FnIs { c with F := runG c.G fs k } f ps body sc := ⟨fnv_cg fi.is, fi.gen, fi.cor⟩
          exact FnOk.cg' (fn_run (c := { c with F := runG c.G fs k }) (ok.cg) (fun f' args' r' h' => (ih f' args' r' h').cg) fi' hps hnd rfl hc hrf hl hrun h)
        · cases h
      · cases h
    · cases h
set_option tactic.hygienic true in
theorem run_topG {c : Cx} {fs : List (Option MF)} (ok : c.Ok) (ft : FnTab c fs) {k f : Nat} {args : List AV} {r : Res} (h : runG c.G fs k f args = some r) : FnOkW c k f args r := by
  cases k with
  | zero => simp [runG] at h
  | succ k =>
    simp only [runG] at h
    split at h
    · rename_i mf hm
      split at h
      · rename_i hl
        split at h
        · rename_i o σ' hrun
          obtain ⟨ps, mu, ap, as, body, sc, fi, hps, hnd, hc, hrf⟩ := ft.fn f mf hm
          have ih := run_okG ok ft k
          have fi' : FnIs { c with F := runG c.G fs k } f ps body sc := ⟨fnv_cg fi.is, fi.gen, fi.cor⟩
          exact FnOkW.cg' (fn_runW (c := { c with F := runG c.G fs k }) (ok.cg) (fun f' args' r' h' => (ih f' args' r' h').cg) fi' hps hnd rfl hc hrf hl hrun h)
        · cases h
      · cases h
    · cases h
noncomputable def fs1 : List (Option MF) := [some b0, some b1, some b2, some b3, some b4, some b5, some b6, some b7, some b8, some b9, some b10, some b11, some b12, some b13, some b14, some b15, some b16, some b17, some b18, some b19, some b20, some b21, some b22, some b23, some b24, some b25, some b26, some b27, some b28, some b29]
section
variable {G : Str → Option AV}
theorem Ba {k f : Nat} {args : List AV} {mf : MF} {v : AV} (hf : fs1[f]? = some (some mf)) (ha : args.length = mf.nargs) (h : ∃ σ', Ah G (runG G fs1 k) (Js args) mf.body (initS mf args) = some (.ret v, σ')) : runG G fs1 (k + 1) f args = some (.val v) := by
  obtain ⟨σ', h⟩ := h
  simp only [runG, hf, ha, if_true, h, Jd]
theorem run_any {k f : Nat} {args : List AV} {mf : MF} {r : Res} (hf : fs1[f]? = some (some mf)) (ha : args.length = mf.nargs) (h : ∃ o σ', Ah G (runG G fs1 k) (Js args) mf.body (initS mf args) = some (o, σ') ∧ Jd o = some r) : runG G fs1 (k + 1) f args = some r := by
  obtain ⟨o, σ', h, hr⟩ := h
  simp only [runG, hf, ha, if_true, h, hr]
theorem fuel1 (a : AV) : Js [a] = Hv a := by simp [Js]
theorem fuel2 (a b : AV) : Js [a, b] = Hv a + Hv b := by simp [Js]
theorem S0 (k : Nat) : ∀ a, runG G fs1 (k + 1) 0 [.ilist a] = some (.val (.ilist (trim a))) := fun a =>
  Ba rfl rfl ⟨_, run_trim a _ (by rw [fuel1]; simp only [Hv]; lia)⟩
theorem S1 (k : Nat) : ∀ x y, runG G fs1 (k + 1) 1 [.int x, .int y] = some (.val (.int (Int.gcd x y))) := fun x y =>
  Ba rfl rfl (run_gcd x y _ (by rw [fuel2]; simp only [Hv]; lia))
theorem S2 (k : Nat) : ∀ a b r, Je a b = some r → runG G fs1 (k + 2) 2 [.ilist a, .ilist b] = some (.val (exV r)) := fun a b r h =>
  Ba rfl rfl (by
    obtain ⟨σ', hσ⟩ := run_exdiv (G := G) (N := Js [.ilist a, .ilist b]) (S0 (G := G) k) a b r h (by rw [fuel2]; simp only [Hv]; exact YI _ _)
    refine ⟨σ', ?_⟩
    cases r <;> exact hσ)
theorem S3 (k : Nat) : ∀ x y r, posrem x y = some r → runG G fs1 (k + 2) 3 [.ilist x, .ilist y] = some (.val (.ilist r)) := fun x y r h =>
  Ba rfl rfl (run_posrem (S0 (G := G) k) x y r h (by rw [fuel2]; simp only [Hv]; exact YI _ _))
theorem S4 (k : Nat) : ∀ z r, shrink z = some r → runG G fs1 (k + 2) 4 [.ilist z] = some (.val (.ilist r)) := fun z r h =>
  Ba rfl rfl (run_shrink (S1 (G := G) k) z r h)
theorem S5 (k : Nat) : ∀ a r, showS a = some r → runG G fs1 (k + 1) 5 [.ilist a] = some (.val (.str r)) := fun a r h =>
  Ba rfl rfl (run_show a r h (by rw [fuel1]; simp only [Hv]; lia))
theorem S6 (k : Nat) : ∀ c, runG G fs1 (k + 1) 6 [.str [c]] = some (.val (.bool (Am c))) := fun c =>
  Ba rfl rfl (run_isdig c)
theorem S7 (k : Nat) : ∀ (t : List Nat) (i : Nat), i ≤ t.length → runG G fs1 (k + 1) 7 [.str t, .int (i : Int)] = some (.val (.int ((i + ((t.drop i).takeWhile isSp).length : Nat) : Int))) := fun t i hi =>
  Ba rfl rfl (run_spaces t i hi (by rw [fuel2]; simp only [Hv]; lia))
theorem S8 (k : Nat) : ∀ (t : List Nat) (i : Nat), i ≤ t.length → runG G fs1 (k + 2) 8 [.str t, .int (i : Int)] = some (.val (.int ((i + ((t.drop i).takeWhile Am).length : Nat) : Int))) := fun t i hi =>
  Ba rfl rfl (run_digits (S6 (G := G) k) t i hi (by rw [fuel2]; simp only [Hv]; lia))
theorem S9 (k : Nat) : ∀ (t : List Nat) (i l : Nat), t.length ≤ LIM → i + l ≤ t.length → runG G fs1 (k + 1) 9 [.str t, .int (i : Int), .int ((i + l : Nat) : Int)] = some (.val (.int (numF ((t.drop i).take l) 0))) := fun t i l ht hl =>
  Ba rfl rfl (run_number t i l hl ht)
theorem STx (k : Nat) {t : List Nat} (ht : t.length ≤ LIM) : Ki (runG G fs1 (k + 2)) t := ⟨ht, S6 (k + 1), fun i hi => S7 (k + 1) t i hi, fun i hi => S8 k t i hi, fun i l hl => S9 (k + 1) t i l ht hl⟩
theorem S10 (k : Nat) {t : List Nat} (ht : t.length ≤ LIM) : CaretF (runG G fs1 (k + 3)) t := fun i hi =>
  Ba rfl rfl (run_caret (STx (G := G) k ht) i hi)
theorem S11 (k : Nat) {t : List Nat} (ht : t.length ≤ LIM) : ∀ s, Suf t s → runG G fs1 (k + 4) 11 [.str t, .int ((pos t s : Nat) : Int)] = some (.val (Fe t (Ea s))) := fun s hs =>
  Ba rfl rfl (run_term (STx (G := G) (k + 1) ht) (S10 (G := G) k ht) hs)
theorem S12 (k : Nat) : ∀ t r, Hg t = some r → runG G fs1 (k + 5) 12 [.str t] = some (exR r) := fun t r h => by
  have ht : t.length ≤ LIM := by
    unfold Hg at h
    split at h
    · cases h
    · exact Nat.le_of_not_lt ‹_›
  exact run_any rfl rfl (run_read (S0 (G := G) (k + 3)) (S11 (G := G) k ht) r h (by rw [fuel1]; simp only [Hv]; lia))
theorem S13 (k : Nat) : ∀ a b r, multiply a b = some r → runG G fs1 (k + 2) 13 [.ilist a, .ilist b] = some (.val (.ilist r)) := fun a b r h =>
  Ba rfl rfl (run_multiply (S0 (G := G) k) a b r h)
theorem S14 (k : Nat) : ∀ a r, derivative a = some r → runG G fs1 (k + 2) 14 [.ilist a] = some (.val (.ilist r)) := fun a r h =>
  Ba rfl rfl (run_derivative (S0 (G := G) k) a r h)
theorem S15 (k : Nat) : ∀ a n v, value a n = some v → runG G fs1 (k + 1) 15 [.ilist a, .int n] = some (.val (.int v)) := fun a n v h =>
  Ba rfl rfl (run_value a n v h (by rw [fuel2]; simp only [Hv]; lia))
theorem S16 (k : Nat) : ∀ a b r, En a b = some r → runG G fs1 (k + 3) 16 [.ilist a, .ilist b] = some (exR r) := fun a b r h =>
  run_any rfl rfl (run_divide (S2 (G := G) k) a b r h)
theorem S17 (k : Nat) : ∀ a, runG G fs1 (k + 2) 17 [.ilist a] = some (.val (.int (content a))) := fun a =>
  Ba rfl rfl (run_content (S1 (G := G) k) a)
theorem S18 (k : Nat) : ∀ a r, primitive a = some r → runG G fs1 (k + 3) 18 [.ilist a] = some (.val (.ilist r)) := fun a r h =>
  Ba rfl rfl (run_primitive (S17 (G := G) k) a r h)
theorem S19 (k : Nat) : ∀ a b r, gcdP a b = some r → runG G fs1 (k + 4) 19 [.ilist a, .ilist b] = some (.val (.ilist r)) := fun a b r h =>
  Ba rfl rfl (run_gcdP (S1 (G := G) (k + 2)) (S3 (G := G) (k + 1)) (S4 (G := G) (k + 1)) (S17 (G := G) (k + 1)) (S18 (G := G) k) a b r h (by rw [fuel2]; simp only [Hv]; lia))
theorem S20 (k : Nat) : ∀ a r, sqf a = some r → runG G fs1 (k + 5) 20 [.ilist a] = some (.val (.tup [.int r.1, Ak r.2])) := fun a r h =>
  Ba rfl rfl (run_sqf (S14 (G := G) (k + 2)) (fun a b q h => S16 (G := G) (k + 1) a b (some q) h) (S17 (G := G) (k + 2)) (S18 (G := G) (k + 1)) (S19 (G := G) k) a r h (by rw [fuel1]; simp only [Hv]; lia))
theorem S21 (k : Nat) : ∀ f gv g r, Seq gv g → Hz f g = some r → runG G fs1 (k + 1) 21 [.ilist f, gv] = some (.val (.ilist r)) := fun f gv g r hs h =>
  Ba rfl rfl (run_times hs h)
theorem S22 (k : Nat) : ∀ fv f x v, Seq fv f → atO f x = some v → runG G fs1 (k + 1) 22 [fv, .int x] = some (.val (.int v)) := fun fv f x v hs h =>
  Ba rfl rfl (run_at hs h)
theorem S23 (k : Nat) : ∀ size grade gap zero, Gu size grade gap zero = true → runG G fs1 (k + 1) 23 [.int size, .int grade, .str gap, .str zero] = some (.val (.str (Ep size grade gap zero))) := fun size grade gap zero h =>
  Ba rfl rfl (run_body h)
theorem S24 (k : Nat) : ∀ ts space gap zero r, Hi ts space gap zero = some r → runG G fs1 (k + 2) 24 [Eu ts, .str space, .str gap, .str zero] = some (.val (Fc r)) := fun ts space gap zero r h =>
  Ba rfl rfl (run_pieces (fun size grade hb => S23 (G := G) k size grade gap zero hb) h)
theorem S25 (k : Nat) : ∀ a r, Km a = some r → runG G fs1 (k + 3) 25 [.ilist a] = some (.val (.str r)) := fun a r h =>
  Ba rfl rfl (run_shown a r (S24 (G := G) k) h)
theorem S26 (k : Nat) {bads : List (List Nat)} (hG : G (Str.ofString "_law_BAD") = some (.tup (bads.map .str))) {a : List Int} {gap zero : List Nat} {m h lead place cut : Int} {bi : Nat} {b : List Nat} {ps : List (List Nat)} (hb : bads[bi]? = some b) (hok : TextsOk a gap zero m h lead b place cut ps) :
    runG G fs1 (k + 6) 26 [.ilist a, .str gap, .str zero, .int m, .int h, .int lead, .int (bi : Int), .int place, .int cut] = some (.val (.bool true)) :=
  Ba rfl rfl (run_texts (S24 (G := G) (k + 3)) (S12 (G := G) k) hG hb hok)
theorem S27 (k : Nat) {a : List Int} {kk : Int} {l : List (List Int × Int)} {line : List Nat} (hok : ApartOk a kk l line) : runG G fs1 (k + 6) 27 [.ilist a, .int kk, Ak l] = some (.val (.bool true)) :=
  Ba rfl rfl (run_apart (S5 (G := G) (k + 4)) (S12 (G := G) k) (S13 (G := G) (k + 3)) (S20 (G := G) k) (S25 (G := G) (k + 2)) hok)
theorem S28 (k : Nat) {PV : AV} (hG : G (Str.ofString "_law_PARTS") = some PV) {a p w best : List Int} {kk l t i j : Int} {q : Option (List Int)} {pv : AV} (hpv : Ay PV (.int l) = some pv) (hp : Seq pv p) (hok : DivOk a kk l t i j p w best q) :
    runG G fs1 (k + 5) 28 [.ilist a, .int kk, .int l, .int t, .tup [.int i, .int j]] = some (.val (.bool true)) :=
  Ba rfl rfl (run_dividing (S13 (G := G) (k + 2)) (S16 (G := G) (k + 1)) (S19 (G := G) k) hG hpv hp hok)
theorem S29 (k : Nat) {P : List (List Int)} (hG : G (Str.ofString "_law_PARTS") = some (.tup (P.map fun p => .tup (p.map .int)))) {s u v a0 a more : List Int} {want : List (List Int × Int)} {x y val : Int} (ok : LawOk (runG G fs1 (k + 6)) P s u v a0 a more want x y val) :
    runG G fs1 (k + 7) 29 [.ilist s] = some (.val (.bool true)) :=
  Ba rfl rfl (run_law (S21 (G := G) (k + 5)) (S13 (G := G) (k + 4)) (S15 (G := G) (k + 5)) (S16 (G := G) (k + 3)) (S22 (G := G) (k + 5)) hG ok)
theorem S29s (k : Nat) (s : List Int) (h : s.length < 15) : runG G fs1 (k + 1) 29 [.ilist s] = some (.val (.bool true)) :=
  Ba rfl rfl (run_law_short s h)
end
end Mine
end
section
open PySem
namespace Mine
set_option tactic.hygienic false
set_option autoImplicit false
noncomputable def sp (n : Nat) : List Nat := List.replicate n 32
noncomputable def Stop (r : List Nat) : Prop := r = [] ∨ ∃ c t, r = c :: t ∧ (c = 43 ∨ c = 45)
noncomputable def Dg (D : List Nat) : Prop := D ≠ [] ∧ ∀ c ∈ D, Am c = true
theorem Gi (n : Nat) (s : List Nat) : (sp n ++ s).dropWhile isSp = s.dropWhile isSp := by
  induction n with
  | zero => rfl
  | succ n ih => simp only [sp, List.replicate_succ, List.cons_append, List.dropWhile_cons, isSp, beq_self_eq_true, if_true]; exact ih
theorem Eb {c : Nat} {r : List Nat} (h : c ≠ 32) : (c :: r).dropWhile isSp = c :: r := by
  have : isSp c = false := by unfold isSp; simpa using h
  rw [List.dropWhile_cons, this]; rfl
theorem Stop.dw {r : List Nat} (h : Stop r) : r.dropWhile isSp = r := by
  rcases h with rfl | ⟨c, t, rfl, h⟩
  · rfl
  · exact Eb (by rcases h with rfl | rfl <;> decide)
noncomputable def NoDig (s : List Nat) : Prop := s = [] ∨ ∃ c t, s = c :: t ∧ Am c = false
theorem Stop.noDig {r : List Nat} (h : Stop r) (m : Nat) : NoDig (sp m ++ r) := by
  cases m with
  | zero =>
    rcases h with rfl | ⟨c, t, rfl, h⟩
    · exact .inl rfl
    · exact .inr ⟨c, t, rfl, by rcases h with rfl | rfl <;> decide⟩
  | succ m => exact .inr ⟨32, sp m ++ r, rfl, by decide⟩
theorem Gq {D s : List Nat} (hD : ∀ c ∈ D, Am c = true) (hs : NoDig s) : (D ++ s).takeWhile Am = D ∧ (D ++ s).dropWhile Am = s := by
  induction D with
  | nil =>
    rcases hs with rfl | ⟨c, t, rfl, h⟩
    · exact ⟨rfl, rfl⟩
    · simp [h]
  | cons c r ih =>
    have h1 := hD c List.mem_cons_self
    obtain ⟨i1, i2⟩ := ih fun c hc => hD c (List.mem_cons_of_mem _ hc)
    simp only [List.cons_append, List.takeWhile_cons, List.dropWhile_cons, h1, if_true, i1, i2, and_self]
theorem dig_ne {c : Nat} (h : Am c = true) : c ≠ 32 ∧ c ≠ 43 ∧ c ≠ 45 ∧ c ≠ 120 ∧ c ≠ 42 ∧ c ≠ 94 := by
  refine ⟨?_, ?_, ?_, ?_, ?_, ?_⟩ <;> (rintro rfl; revert h; decide)
theorem caret_none {r : List Nat} (h : Stop r) (m : Nat) : Al (sp m ++ r) = (0, 1) := by
  unfold Al
  rw [Gi, h.dw]
  rcases h with rfl | ⟨c, t, rfl, h⟩
  · rfl
  · rcases h with rfl | rfl <;> rfl
theorem caret_some {r E : List Nat} (h : Stop r) (hE : Dg E) (g g' m : Nat) : Al (sp g ++ 94 :: (sp g' ++ (E ++ (sp m ++ r)))) = ((sp g ++ 94 :: (sp g' ++ E)).length, numF E 0) := by
  obtain ⟨c, t, rfl⟩ : ∃ c t, E = c :: t := by cases E with | nil => exact absurd rfl hE.1 | cons c t => exact ⟨c, t, rfl⟩
  have hc := hE.2 c List.mem_cons_self
  have hs := Gq hE.2 (h.noDig m)
  rw [List.cons_append] at hs
  unfold Al
  rw [Gi, Eb (by decide)]
  simp only
  rw [Gi, List.cons_append, Eb (dig_ne hc).1]
  simp only [hc, if_true]
  rw [hs.1, hs.2]
  congr 1
  simp only [List.length_append, List.length_cons]
  lia
theorem dr_app (a b : List Nat) : (a ++ b).drop a.length = b := by simp
theorem sign_of {sg s : List Nat} (hs : sg = [43] ∨ sg = [45] ∨ (sg = [] ∧ ∃ c t, s = c :: t ∧ c ≠ 32 ∧ c ≠ 43 ∧ c ≠ 45)) (n n' : Nat) (hn : sg = [] → n' = 0) : Fl (sp n ++ (sg ++ (sp n' ++ s))) = (sg, sp n' ++ s) := by
  unfold Fl
  rw [Gi]
  rcases hs with rfl | rfl | ⟨rfl, c, t, rfl, h1, h2, h3⟩
  · rw [List.cons_append, Eb (by decide)]; simp
  · rw [List.cons_append, Eb (by decide)]; simp
  · have := hn rfl
    subst this
    simp only [List.nil_append, sp, List.replicate_zero]
    rw [Eb h1]
    simp [h2, h3]
theorem term_num {sg D r : List Nat} (hs : sg = [43] ∨ sg = [45] ∨ sg = []) (hD : Dg D) (h : Stop r) (n n' m : Nat) (hn : sg = [] → n' = 0) : Ea (sp n ++ (sg ++ (sp n' ++ (D ++ (sp m ++ r))))) = some (sg, numF D 0, 0, r) := by
  obtain ⟨c, t, rfl⟩ : ∃ c t, D = c :: t := by cases D with | nil => exact absurd rfl hD.1 | cons c t => exact ⟨c, t, rfl⟩
  have hc := hD.2 c List.mem_cons_self
  have hne := dig_ne hc
  have hsp := Gq hD.2 (h.noDig m)
  have hsg := sign_of (sg := sg) (s := (c :: t) ++ (sp m ++ r)) (by
    rcases hs with h1 | h1 | h1
    · exact .inl h1
    · exact .inr (.inl h1)
    · exact .inr (.inr ⟨h1, c, _, rfl, hne.1, hne.2.1, hne.2.2.1⟩)) n n' hn
  rw [List.cons_append] at hsp hsg
  rw [List.cons_append]
  unfold Ea
  rw [hsg]
  simp only
  rw [Gi, Eb hne.1]
  simp only [hc, if_true]
  rw [hsp.1, hsp.2]
  have : Im (sp m ++ r) = none := by
    unfold Im
    rw [Gi, h.dw]
    rcases h with rfl | ⟨c, t, rfl, h⟩
    · rfl
    · rcases h with rfl | rfl <;> rfl
  rw [this]
  simp only
  rw [Gi, h.dw]
theorem term_both {sg D q r : List Nat} (hs : sg = [43] ∨ sg = [45] ∨ sg = []) (hD : Dg D) (n n' g g' : Nat) (hn : sg = [] → n' = 0) (hq : (q.drop (Al q).1).dropWhile isSp = r) :
    Ea (sp n ++ (sg ++ (sp n' ++ (D ++ (sp g ++ 42 :: (sp g' ++ 120 :: q)))))) = some (sg, numF D 0, (Al q).2, r) := by
  obtain ⟨c, t, rfl⟩ : ∃ c t, D = c :: t := by cases D with | nil => exact absurd rfl hD.1 | cons c t => exact ⟨c, t, rfl⟩
  have hc := hD.2 c List.mem_cons_self
  have hne := dig_ne hc
  have hnd : NoDig (sp g ++ 42 :: (sp g' ++ 120 :: q)) := by
    cases g with
    | zero => exact .inr ⟨42, _, rfl, by decide⟩
    | succ g => exact .inr ⟨32, _, rfl, by decide⟩
  have hsp := Gq hD.2 hnd
  have hsg := sign_of (sg := sg) (s := (c :: t) ++ (sp g ++ 42 :: (sp g' ++ 120 :: q))) (by
    rcases hs with h1 | h1 | h1
    · exact .inl h1
    · exact .inr (.inl h1)
    · exact .inr (.inr ⟨h1, c, _, rfl, hne.1, hne.2.1, hne.2.2.1⟩)) n n' hn
  rw [List.cons_append] at hsp hsg
  rw [List.cons_append]
  unfold Ea
  rw [hsg]
  simp only
  rw [Gi, Eb hne.1]
  simp only [hc, if_true]
  rw [hsp.1, hsp.2]
  have : Im (sp g ++ 42 :: (sp g' ++ 120 :: q)) = some q := by
    unfold Im
    rw [Gi, Eb (by decide)]
    simp only
    rw [Gi, Eb (by decide)]
    rfl
  rw [this]
  simp only [hq]
theorem term_x {sg q r : List Nat} (hs : sg = [43] ∨ sg = [45] ∨ sg = []) (n n' : Nat) (hn : sg = [] → n' = 0) (hq : (q.drop (Al q).1).dropWhile isSp = r) : Ea (sp n ++ (sg ++ (sp n' ++ 120 :: q))) = some (sg, 1, (Al q).2, r) := by
  have hsg := sign_of (sg := sg) (s := 120 :: q) (by
    rcases hs with h1 | h1 | h1
    · exact .inl h1
    · exact .inr (.inl h1)
    · exact .inr (.inr ⟨h1, 120, _, rfl, by decide, by decide, by decide⟩)) n n' hn
  unfold Ea
  rw [hsg]
  simp only
  rw [Gi, Eb (by decide)]
  have hd : Am 120 = false := by decide
  simp only [hd, Bool.false_eq_true, if_false, if_true, hq]
structure DigOk (n : Int) : Prop where
  dg : Dg (An n)
  num : numF (An n) 0 = n
theorem Dg.zero {D : List Nat} (h : Dg D) : Dg ([48] ++ D) := ⟨by simp, fun c hc => by
  rcases List.mem_append.mp hc with hc | hc
  · simp at hc; subst hc; decide
  · exact h.2 c hc⟩
theorem num_zero (D : List Nat) : numF ([48] ++ D) 0 = numF D 0 := by
  simp only [numF, List.cons_append, List.nil_append, List.foldl_cons]; rfl
theorem name_q {grade : Int} {zero r : List Nat} (hz : zero = [] ∨ zero = [48]) (hg : DigOk grade) (h : Stop r) (g m : Nat) : ∃ q, Hm grade (sp g) zero ++ (sp m ++ r) = 120 :: q ∧ (Al q).2 = grade ∧ (q.drop (Al q).1).dropWhile isSp = r := by
  unfold Hm
  by_cases hc : grade ≠ 1 ∨ zero ≠ []
  · rw [if_pos hc]
    have hD : Dg (zero ++ An grade) := by
      rcases hz with rfl | rfl
      · exact hg.dg
      · exact hg.dg.zero
    have hN : numF (zero ++ An grade) 0 = grade := by
      rcases hz with rfl | rfl
      · exact hg.num
      · rw [num_zero]; exact hg.num
    refine ⟨sp g ++ 94 :: (sp g ++ ((zero ++ An grade) ++ (sp m ++ r))), by simp, ?_, ?_⟩
    · rw [caret_some h hD]; exact hN
    · rw [caret_some h hD]
      have : sp g ++ 94 :: (sp g ++ ((zero ++ An grade) ++ (sp m ++ r))) = (sp g ++ 94 :: (sp g ++ (zero ++ An grade))) ++ (sp m ++ r) := by simp
      rw [this, dr_app, Gi, h.dw]
  · rw [if_neg hc]
    simp only [ne_eq, not_or, Classical.not_not] at hc
    refine ⟨sp m ++ r, rfl, ?_, ?_⟩
    · rw [caret_none h]; exact hc.1.symm
    · rw [caret_none h, List.drop_zero, Gi, h.dw]
theorem Kc {size grade : Int} {sg zero r : List Nat} (hs : sg = [43] ∨ sg = [45] ∨ sg = []) (hz : zero = [] ∨ zero = [48]) (hd : DigOk size) (hg : DigOk grade) (h : Stop r) (n n' g m : Nat) (hn : sg = [] → n' = 0) :
    Ea (sp n ++ (sg ++ (sp n' ++ (Ep size grade (sp g) zero ++ (sp m ++ r))))) = some (sg, size, grade, r) := by
  unfold Ep
  by_cases h1 : grade = 0 ∧ zero = []
  · rw [if_pos h1, term_num hs hd.dg h n n' m hn, hd.num, h1.1]
  · rw [if_neg h1]
    obtain ⟨q, e1, e2, e3⟩ := name_q (grade := grade) (zero := zero) hz hg h g m
    by_cases h2 : size = 1 ∧ zero = []
    · rw [if_pos h2, e1, term_x hs n n' hn e3, e2, h2.1]
    · rw [if_neg h2]
      have hD : Dg (zero ++ An size) := by
        rcases hz with rfl | rfl
        · exact hd.dg
        · exact hd.dg.zero
      have hN : numF (zero ++ An size) 0 = size := by
        rcases hz with rfl | rfl
        · exact hd.num
        · rw [num_zero]; exact hd.num
      have e4 : zero ++ An size ++ sp g ++ [42] ++ sp g ++ Hm grade (sp g) zero ++ (sp m ++ r) = (zero ++ An size) ++ (sp g ++ 42 :: (sp g ++ 120 :: q)) := by
        rw [← e1]; simp
      rw [e4, term_both hs hD n n' g g hn e3, hN, e2]
end Mine
end
section
open PySem
namespace Mine
set_option tactic.hygienic false
set_option autoImplicit false
noncomputable def addC (es : List (Int × Int)) (p : Int × Int) : List (Int × Int) := dset es p.2 ((es.lookup p.2).getD 0 + p.1)
noncomputable def sgn (c : Int) : List Nat := [if c < 0 then 45 else 43]
theorem add_sgn (es : List (Int × Int)) (p : Int × Int) : Ha es (sgn p.1) (p.1.natAbs : Int) p.2 = addC es p := by
  unfold Ha addC sgn
  by_cases h : p.1 < 0
  · rw [if_pos h]
    have : -(p.1.natAbs : Int) = p.1 := by exact YC ‹_›
    simp [this]
  · rw [if_neg h]
    have : (p.1.natAbs : Int) = p.1 := by exact YD ‹_›
    simp [this]
theorem add_nil (es : List (Int × Int)) (p : Int × Int) (h : 0 ≤ p.1) : Ha es [] (p.1.natAbs : Int) p.2 = addC es p := by
  unfold Ha addC
  have : (p.1.natAbs : Int) = p.1 := by exact YE ‹_›
  simp [this]
structure Hb (ts : List (Int × Int)) : Prop where
  d1 : ∀ p ∈ ts, DigOk (p.1.natAbs : Int)
  d2 : ∀ p ∈ ts, DigOk p.2
theorem Ip (es : List (Int × Int)) (k n : Int) : (dset es k n).length ≤ es.length + 1 := dset_len es k n
theorem Iw (space gap zero : List Nat) (p : Int × Int) (t : List Nat) : Stop (Aq space gap zero p ++ t) := by
  unfold Aq
  refine .inr ⟨if p.1 < 0 then 45 else 43, space ++ Ep (p.1.natAbs : Int) p.2 gap zero ++ t, by simp, ?_⟩
  by_cases h : p.1 < 0
  · rw [if_pos h]; exact .inr rfl
  · rw [if_neg h]; exact .inl rfl
theorem join_stop (space gap zero : List Nat) (p : Int × Int) (ts : List (Int × Int)) (t : List Nat) : Stop (Au gap ((p :: ts).map (Aq space gap zero)) ++ t) := by
  cases ts with
  | nil => exact Iw space gap zero p t
  | cons q r =>
    simp only [List.map_cons, Au, List.append_assoc]
    exact Iw space gap zero p _
theorem Gn {n : Nat} {first : Bool} {s rem sg : List Nat} {co ex : Int} {es : List (Int × Int)} (hT : Ea s = some (sg, co, ex, rem)) (hs : s ≠ []) (hsg : first = true ∨ sg ≠ []) (hl : es.length < LIM) : Av (n + 1) first s es = Av n false rem (Ha es sg co ex) := by
  simp only [Av]
  rw [if_neg (by simp [hs]), hT]
  simp only
  rw [if_neg (by rcases hsg with h | h; simp [h]; simp [h]), if_neg (by exact Nat.not_le_of_lt ‹_›)]
theorem Ib {zero : List Nat} (hz : zero = [] ∨ zero = [48]) (a g m : Nat) {r : List Nat} (hr : Stop r) : ∀ (ts : List (Int × Int)) (p : Int × Int) (first : Bool) (n fuel : Nat) (es : List (Int × Int)), Hb (p :: ts) → es.length + (p :: ts).length ≤ 1000 →
    Av (fuel + (p :: ts).length) first (sp n ++ (Au (sp g) ((p :: ts).map (Aq (sp a) (sp g) zero)) ++ (sp m ++ r))) es = Av fuel false r ((p :: ts).foldl addC es)
  | [], p, first, n, fuel, es, ok, hl => by
    have hL : LIM = 1048576 := rfl
    have hT := Kc (sg := sgn p.1) (zero := zero) (r := r) (by unfold sgn; split; exact .inr (.inl rfl); exact .inl rfl) hz (ok.d1 p List.mem_cons_self) (ok.d2 p List.mem_cons_self) hr n a g m (by unfold sgn; intro h; cases h)
    have e : sp n ++ (Au (sp g) ([p].map (Aq (sp a) (sp g) zero)) ++ (sp m ++ r)) = sp n ++ (sgn p.1 ++ (sp a ++ (Ep (p.1.natAbs : Int) p.2 (sp g) zero ++ (sp m ++ r)))) := by
      simp only [List.map_cons, List.map_nil, Au, Aq, sgn, List.append_assoc]
    rw [e, List.length_cons, List.length_nil, Gn hT (by simp [sgn]) (.inr (by simp [sgn])) (by simp only [List.length_cons, List.length_nil] at hl; lia), add_sgn]
    rfl
  | q :: ts, p, first, n, fuel, es, ok, hl => by
    have hL : LIM = 1048576 := rfl
    have hst : Stop (Au (sp g) ((q :: ts).map (Aq (sp a) (sp g) zero)) ++ (sp m ++ r)) := join_stop _ _ _ _ _ _
    have hT := Kc (sg := sgn p.1) (zero := zero) (by unfold sgn; split; exact .inr (.inl rfl); exact .inl rfl) hz (ok.d1 p List.mem_cons_self) (ok.d2 p List.mem_cons_self) hst n a g g (by unfold sgn; intro h; cases h)
    have e : sp n ++ (Au (sp g) ((p :: q :: ts).map (Aq (sp a) (sp g) zero)) ++ (sp m ++ r)) = sp n ++ (sgn p.1 ++ (sp a ++ (Ep (p.1.natAbs : Int) p.2 (sp g) zero ++ (sp g ++ (Au (sp g) ((q :: ts).map (Aq (sp a) (sp g) zero)) ++ (sp m ++ r)))))) := by
      simp only [List.map_cons, Au, Aq, sgn, List.append_assoc]
    have hlen : (addC es p).length ≤ es.length + 1 := Ip _ _ _
    have ih := Ib hz a g m hr ts q false 0 fuel (addC es p) ⟨fun x hx => ok.d1 x (List.mem_cons_of_mem _ hx), fun x hx => ok.d2 x (List.mem_cons_of_mem _ hx)⟩ (by simp only [List.length_cons] at hl ⊢; lia)
    have ef : fuel + (p :: q :: ts).length = (fuel + (q :: ts).length) + 1 := by simp only [List.length_cons]; exact rfl
    rw [e, ef, Gn hT (by simp [sgn]) (.inr (by simp [sgn])) (by simp only [List.length_cons] at hl; lia), add_sgn]
    exact ih
theorem read_lead {zero : List Nat} (hz : zero = [] ∨ zero = [48]) (a g m : Nat) {r : List Nat} (hr : Stop r) (ts : List (Int × Int)) (p q : Int × Int) (n fuel : Nat) (ok : Hb (p :: q :: ts)) (hp : 0 ≤ p.1) (hl : (p :: q :: ts).length ≤ 1000) :
    Av (fuel + (p :: q :: ts).length) true (sp n ++ ((Au (sp g) ((p :: q :: ts).map (Aq (sp a) (sp g) zero))).drop 1 ++ (sp m ++ r))) [] = Av fuel false r ((p :: q :: ts).foldl addC []) := by
  have hL : LIM = 1048576 := rfl
  have hst : Stop (Au (sp g) ((q :: ts).map (Aq (sp a) (sp g) zero)) ++ (sp m ++ r)) := join_stop _ _ _ _ _ _
  have hT := Kc (sg := []) (zero := zero) (.inr (.inr rfl)) hz (ok.d1 p List.mem_cons_self) (ok.d2 p List.mem_cons_self) hst (n + a) 0 g g (fun _ => rfl)
  have esp : ∀ x y : Nat, sp (x + y) = sp x ++ sp y := fun x y => by unfold sp; rw [List.replicate_append_replicate]
  have e : sp n ++ ((Au (sp g) ((p :: q :: ts).map (Aq (sp a) (sp g) zero))).drop 1 ++ (sp m ++ r)) = sp (n + a) ++ ([] ++ (sp 0 ++ (Ep (p.1.natAbs : Int) p.2 (sp g) zero ++ (sp g ++ (Au (sp g) ((q :: ts).map (Aq (sp a) (sp g) zero)) ++ (sp m ++ r)))))) := by
    rw [esp]
    simp only [List.map_cons, Au, Aq, List.append_assoc, List.cons_append, List.nil_append, List.drop_succ_cons, List.drop_zero, sp, List.replicate_zero]
  have hne : sp (n + a) ++ ([] ++ (sp 0 ++ (Ep (p.1.natAbs : Int) p.2 (sp g) zero ++ (sp g ++ (Au (sp g) ((q :: ts).map (Aq (sp a) (sp g) zero)) ++ (sp m ++ r)))))) ≠ [] := by
    intro h0
    rw [h0] at hT
    revert hT; simp [Ea, Fl]
  have ih := Ib hz a g m hr ts q false 0 fuel (addC [] p) ⟨fun x hx => ok.d1 x (List.mem_cons_of_mem _ hx), fun x hx => ok.d2 x (List.mem_cons_of_mem _ hx)⟩ (by
    have hlen : (addC [] p).length ≤ 1 := Ip _ _ _
    simp only [List.length_cons] at hl ⊢; lia)
  have ef : fuel + (p :: q :: ts).length = (fuel + (q :: ts).length) + 1 := by simp only [List.length_cons]; exact rfl
  rw [e, ef, Gn hT hne (.inl rfl) (by simp only [List.length_nil]; with_reducible exact Nat.lt_of_le_of_lt (by repeat' first | assumption | apply Nat.add_le_add | exact Nat.le_refl _) (by decide)), add_nil _ _ hp]
  exact ih
end Mine
end
section
open PySem
namespace Mine
set_option tactic.hygienic false
set_option autoImplicit false
theorem dset_lookup (es : List (Int × Int)) (k v x : Int) : (dset es k v).lookup x = if x = k then some v else es.lookup x := by
  induction es with
  | nil =>
    simp only [dset, List.lookup_cons, List.lookup_nil]
    by_cases h : x = k
    · simp [h]
    · have : (x == k) = false := by simpa using h
      simp [this, h]
  | cons p r ih =>
    obtain ⟨a, b⟩ := p
    simp only [dset]
    by_cases ha : a = k
    · rw [if_pos ha, List.lookup_cons, List.lookup_cons]
      by_cases h : x = k
      · simp [h]
      · have h1 : (x == k) = false := by simpa using h
        have h2 : (x == a) = false := by rw [ha]; exact h1
        simp [h1, h2, h]
    · rw [if_neg ha, List.lookup_cons, List.lookup_cons]
      cases hx : x == a with
      | true =>
        have : x = a := by simpa using hx
        subst this
        simp [ha]
      | false => exact ih
noncomputable def valAt (es : List (Int × Int)) (k : Int) : Int := (es.lookup k).getD 0
noncomputable def He (ts : List (Int × Int)) (k : Int) : Int := (ts.map fun p => if p.2 = k then p.1 else 0).sum
theorem val_add (es : List (Int × Int)) (p : Int × Int) (k : Int) : valAt (addC es p) k = valAt es k + (if p.2 = k then p.1 else 0) := by
  unfold valAt addC
  rw [dset_lookup]
  by_cases h : k = p.2
  · subst h; simp
  · have : ¬ (p.2 = k) := fun q => h q.symm
    simp [h, this]
theorem val_fold : ∀ (ts : List (Int × Int)) (es : List (Int × Int)) (k : Int), valAt (ts.foldl addC es) k = valAt es k + He ts k
  | [], es, k => by simp [He]
  | p :: ts, es, k => by
    rw [List.foldl_cons, val_fold ts, val_add]
    simp only [He, List.map_cons, List.sum_cons]; lia
theorem key_fold (P : Int → Prop) : ∀ (ts : List (Int × Int)) (es : List (Int × Int)), (∀ e ∈ es, P e.1) → (∀ p ∈ ts, P p.2) → ∀ e ∈ ts.foldl addC es, P e.1
  | [], es, h1, _ => h1
  | p :: ts, es, h1, h2 => by
    rw [List.foldl_cons]
    refine key_fold P ts (addC es p) (fun e he => ?_) fun q hq => h2 q (List.mem_cons_of_mem _ hq)
    have hp := h2 p List.mem_cons_self
    have : ∀ (l : List (Int × Int)) (v : Int), (∀ e ∈ l, P e.1) → ∀ e ∈ dset l p.2 v, P e.1 := by
      intro l v hl
      induction l with
      | nil => intro e he; simp [dset] at he; subst he; exact hp
      | cons q r ih =>
        obtain ⟨a, b⟩ := q
        intro e he
        simp only [dset] at he
        split at he
        · rcases List.mem_cons.mp he with rfl | he
          · exact hp
          · exact hl e (List.mem_cons_of_mem _ he)
        · rcases List.mem_cons.mp he with rfl | he
          · exact hl _ List.mem_cons_self
          · exact ih (fun e he => hl e (List.mem_cons_of_mem _ he)) e he
    exact this es _ h1 e he
theorem top_spec (all : List (Int × Int)) : ∀ (l : List (Int × Int)) (t0 : Int), t0 ≤ topF all l t0 ∧ (topF all l t0 = t0 ∨ ∃ e ∈ l, e.1 = topF all l t0) ∧ ∀ e ∈ l, e.1 > topF all l t0 → all.lookup e.1 = some 0
  | [], t0 => ⟨Int.le_refl _, .inl rfl, fun _ h => by cases h⟩
  | e :: l, t0 => by
    simp only [topF]
    by_cases h : e.1 > t0 ∧ all.lookup e.1 ≠ some 0
    · rw [if_pos h]
      obtain ⟨h1, h2, h3⟩ := top_spec all l e.1
      refine ⟨by lia, ?_, fun x hx hgt => ?_⟩
      · rcases h2 with h2 | ⟨x, hx, h2⟩
        · exact .inr ⟨e, List.mem_cons_self, h2.symm⟩
        · exact .inr ⟨x, List.mem_cons_of_mem _ hx, h2⟩
      · rcases List.mem_cons.mp hx with rfl | hx
        · lia
        · exact h3 x hx hgt
    · rw [if_neg h]
      obtain ⟨h1, h2, h3⟩ := top_spec all l t0
      refine ⟨h1, ?_, fun x hx hgt => ?_⟩
      · rcases h2 with h2 | ⟨x, hx, h2⟩
        · exact .inl h2
        · exact .inr ⟨x, List.mem_cons_of_mem _ hx, h2⟩
      · rcases List.mem_cons.mp hx with rfl | hx
        · by_cases hz : all.lookup x.1 = some 0
          · exact hz
          · exact absurd ⟨by lia, hz⟩ h
        · exact h3 x hx hgt
theorem look_mem : ∀ {es : List (Int × Int)} {k v : Int}, es.lookup k = some v → ∃ e ∈ es, e.1 = k
  | [], k, v, h => by simp at h
  | (a, b) :: r, k, v, h => by
    rw [List.lookup_cons] at h
    cases hx : k == a with
    | true => exact ⟨(a, b), List.mem_cons_self, by have : k = a := by simpa using hx
                                                    exact this.symm⟩
    | false =>
      rw [hx] at h
      obtain ⟨e, he, h'⟩ := look_mem h
      exact ⟨e, List.mem_cons_of_mem _ he, h'⟩
theorem tl_zero (b : List Int) (m : Nat) : ∀ n, m ≤ n → (∀ i, m ≤ i → i < n → b[i]? = some 0) → tl b n = tl b m
  | 0, h, _ => by have : m = 0 := by exact Nat.eq_zero_of_le_zero ‹_›
                  subst this; rfl
  | n + 1, h, hz => by
    by_cases hm : m = n + 1
    · rw [hm]
    · simp only [tl]
      rw [if_pos (hz n (by with_reducible exact (ZC ‹_› ‹_›)) (by exact Nat.lt_succ_self _))]
      exact tl_zero b m n (by with_reducible exact (ZC ‹_› ‹_›)) fun i h1 h2 => hz i h1 (by exact Nat.lt_succ_of_lt ‹_›)
noncomputable def Ax (a : List Int) : Prop := ∀ x, a.getLast? = some x → x ≠ 0
theorem trim_zeros {a : List Int} (ha : Ax a) (n : Nat) : trim (a ++ List.replicate n 0) = a := by
  unfold trim
  have h1 : tl (a ++ List.replicate n 0) (a ++ List.replicate n 0).length = tl (a ++ List.replicate n 0) a.length := by
    refine tl_zero _ _ _ (by simp) fun i h1 h2 => ?_
    rw [List.getElem?_append_right h1, List.getElem?_replicate]
    simp only [List.length_append, List.length_replicate] at h2
    rw [if_pos (by lia)]
  rw [h1]
  have h2 : tl (a ++ List.replicate n 0) a.length = a.length := by
    cases hl : a.length with
    | zero => rfl
    | succ m =>
      simp only [tl]
      have hm : m < a.length := by lia
      have hx : a.getLast? = some a[m] := by rw [List.getLast?_eq_getElem?, hl]; simp [List.getElem?_eq_getElem hm]
      have hne := ha _ hx
      rw [List.getElem?_append_left hm, List.getElem?_eq_getElem hm, if_neg (by simpa using hne)]
  rw [h2]
  simp
theorem read_end {a : List Int} {ts : List (Int × Int)} (ha : Ax a) (hs : ∀ k : Nat, He ts (k : Int) = a.getD k 0) (hg : ∀ p ∈ ts, 0 ≤ p.2 ∧ p.2 < 1000) : readEnd (ts.foldl addC []) = some a := by
  have hL : LIM = 1048576 := rfl
  generalize hes : ts.foldl addC [] = es
  have hv : ∀ k : Nat, valAt es (k : Int) = a.getD k 0 := fun k => by
    rw [← hes, val_fold, hs k]; simp [valAt]
  have hkeys : ∀ e ∈ es, 0 ≤ e.1 ∧ e.1 < 1000 := by
    rw [← hes]; exact key_fold (fun k => 0 ≤ k ∧ k < 1000) ts [] (by simp) hg
  obtain ⟨t1, t2, t3⟩ := top_spec es es 0
  generalize htt : topF es es 0 = t at *
  have htl : t < 1000 := by
    rcases t2 with h | ⟨e, he, h⟩
    · lia
    · have := hkeys e he; lia
  have hz : ∀ k : Nat, t < (k : Int) → a.getD k 0 = 0 := fun k hk => by
    rw [← hv k]
    unfold valAt
    cases hq : es.lookup (k : Int) with
    | none => rfl
    | some v =>
      obtain ⟨e, he, e1⟩ := look_mem hq
      have := t3 e he (by lia)
      rw [e1, hq] at this
      rw [this]; rfl
  unfold readEnd
  rw [htt, if_pos ⟨t1, by lia⟩]
  congr 1
  have hla : a.length ≤ (t + 1).toNat := by
    rcases Nat.lt_or_ge (t + 1).toNat a.length with h | h
    · exfalso
      have hm : a.length - 1 < a.length := by lia
      have hx : a.getLast? = some a[a.length - 1] := by rw [List.getLast?_eq_getElem?, List.getElem?_eq_getElem hm]
      have hne := ha _ hx
      have := hz (a.length - 1) (by lia)
      rw [List.getD_eq_getElem?_getD, List.getElem?_eq_getElem hm] at this
      exact hne this
    · exact h
  have htab : tabs es (t + 1).toNat = a ++ List.replicate ((t + 1).toNat - a.length) 0 := by
    apply List.ext_getElem?
    intro i
    unfold tabs
    rw [List.getElem?_map]
    by_cases hi : i < (t + 1).toNat
    · rw [List.getElem?_range hi]
      simp only [Option.map_some]
      have hvi := hv i
      unfold valAt at hvi
      rw [hvi]
      by_cases hia : i < a.length
      · rw [List.getElem?_append_left hia, List.getD_eq_getElem?_getD, List.getElem?_eq_getElem hia]; rfl
      · rw [List.getElem?_append_right (by exact Nat.le_of_not_lt ‹_›), List.getElem?_replicate, if_pos (by lia), List.getD_eq_getElem?_getD, List.getElem?_eq_none (by exact Nat.le_of_not_lt ‹_›)]; rfl
    · rw [List.getElem?_eq_none (by simp; lia), List.getElem?_eq_none (by simp; lia)]; rfl
  rw [htab, trim_zeros ha]
end Mine
end
section
open PySem
namespace Mine
set_option tactic.hygienic false
set_option autoImplicit false
noncomputable def digChk (n : Nat) : Bool := !(An (n : Int)).isEmpty && (An (n : Int)).all Am && (numF (An (n : Int)) 0 == (n : Int)) && decide ((An (n : Int)).length ≤ 10)
theorem dig_all : (List.range 1101).all digChk = true := by decide +kernel
theorem dig_ok {n : Nat} (h : n ≤ 1100) : DigOk (n : Int) ∧ (An (n : Int)).length ≤ 10 := by
  have := List.all_eq_true.mp dig_all n (List.mem_range.mpr (by exact Nat.lt_succ_of_le ‹_›))
  unfold digChk at this
  simp only [Bool.and_eq_true, Bool.not_eq_true', decide_eq_true_eq, beq_iff_eq] at this
  obtain ⟨⟨⟨h1, h2⟩, h3⟩, h4⟩ := this
  refine ⟨⟨⟨?_, fun c hc => List.all_eq_true.mp h2 c hc⟩, h3⟩, h4⟩
  intro q; rw [q] at h1; cases h1
noncomputable def BADS : List (List Nat) := [[], [50, 120], [50, 42], [120, 94], [51, 32, 52], [121], [120, 42, 50], [120, 94, 45, 49], [49, 47, 50], [120, 94, 50, 94, 51], [58], [120, 32, 120]]
noncomputable def Tail (t : List Nat) : Prop := Stop t
theorem exc_none {n : Nat} {s : List Nat} {es : List (Int × Int)} (hs : s ≠ []) (h : Ea s = none) : Av (n + 1) false s es = some none := by
  simp only [Av]
  rw [if_neg (by simp [hs]), h]
theorem exc_sign {n : Nat} {s : List Nat} {es : List (Int × Int)} (hs : s ≠ []) (h : (Fl s).1 = []) : Av (n + 1) false s es = some none := by
  simp only [Av]
  rw [if_neg (by simp [hs])]
  cases hT : Ea s with
  | none => rfl
  | some p =>
    obtain ⟨sg, co, ex, rem⟩ := p
    have : sg = [] := by
      unfold Ea at hT
      split at hT
      · cases hT
      · split at hT
        · split at hT <;> (cases hT; exact h)
        · split at hT
          · cases hT; exact h
          · cases hT
    subst this
    simp
theorem term_bad {sg s : List Nat} {c : Nat} {t : List Nat} (hs : Fl s = (sg, c :: t)) (h1 : c ≠ 32) (h2 : Am c = false) (h3 : c ≠ 120) : Ea s = none := by
  unfold Ea
  rw [hs]
  simp only
  rw [Eb h1]
  simp [h2, h3]
set_option tactic.hygienic true in
theorem bad_read {b t : List Nat} (hb : b ∈ BADS) (ht : Stop t) (n : Nat) (es : List (Int × Int)) (hl : es.length < LIM) : Av (n + 2) false (43 :: (b ++ t)) es = some none := by
  have sgp : ∀ s, Fl (43 :: s) = ([43], s) := fun s => by unfold Fl; rw [Eb (by decide)]; rfl
  have hne : ∀ s : List Nat, 43 :: s ≠ [] := fun s => by simp
  have sg0 : ∀ c s, c ≠ 32 → c ≠ 43 → c ≠ 45 → Fl (c :: s) = ([], c :: s) := fun c s h1 h2 h3 => by unfold Fl; rw [Eb h1]; simp [h2, h3]
  -- a first term that is read, then something without a sign
  have two : ∀ (s rem : List Nat) (co ex : Int) (c : Nat) (r : List Nat), Ea (43 :: s) = some ([43], co, ex, rem) → rem = c :: r → c ≠ 32 → c ≠ 43 → c ≠ 45 → Av (n + 2) false (43 :: s) es = some none := fun s rem co ex c r hT hrem h1 h2 h3 => by
    rw [Gn hT (hne s) (.inr (by simp)) hl, hrem]
    exact exc_sign (by simp) (by rw [sg0 c r h1 h2 h3])
  have dgc : ∀ c, Am c = true → Dg [c] := fun c h => ⟨by simp, fun x hx => by simp at hx; subst hx; exact h⟩
  have starN : ∀ (c : Nat) (r : List Nat), c ≠ 32 → c ≠ 42 → Im (c :: r) = none := fun c r h1 h2 => by
    unfold Im; rw [Eb h1]
    split
    · rename_i heq; cases heq; exact absurd rfl h2
    · rfl
  -- a digit, then a sign that does not go on
  have digT : ∀ (d c : Nat) (r : List Nat), Am d = true → Am c = false → c ≠ 32 → c ≠ 42 → Ea (43 :: d :: c :: r) = some ([43], numF [d] 0, 0, c :: r) := fun d c r hd hc h1 h2 => by
    have hs := Gq (D := [d]) (s := c :: r) (dgc d hd).2 (.inr ⟨c, r, rfl, hc⟩)
    unfold Ea
    rw [sgp]
    simp only
    rw [Eb (dig_ne hd).1]
    simp only [hd, if_true]
    have e : d :: c :: r = [d] ++ c :: r := rfl
    rw [e, hs.1, hs.2, starN c r h1 h2]
    simp only
    rw [Eb h1]
  have xT : ∀ (q : List Nat), Ea (43 :: 120 :: q) = some ([43], 1, (Al q).2, (q.drop (Al q).1).dropWhile isSp) := fun q => by
    unfold Ea
    rw [sgp]
    simp only
    rw [Eb (by decide)]
    have hd : Am 120 = false := by decide
    simp only [hd, Bool.false_eq_true, if_false, if_true]
  have caN : ∀ (c : Nat) (r : List Nat), c ≠ 32 → c ≠ 94 → Al (c :: r) = (0, 1) := fun c r h1 h2 => by
    unfold Al; rw [Eb h1]
    split
    · rename_i heq; cases heq; exact absurd rfl h2
    · rfl
  simp only [BADS, List.mem_cons, List.not_mem_nil, or_false] at hb
  rcases hb with rfl | rfl | rfl | rfl | rfl | rfl | rfl | rfl | rfl | rfl | rfl | rfl
  · -- nothing
    rcases ht with rfl | ⟨c, t, rfl, hc⟩
    · exact exc_none (by simp) (by rfl)
    · refine exc_none (by simp) (term_bad (sgp _) ?_ ?_ ?_) <;> rcases hc with rfl | rfl <;> decide
  · exact two _ _ _ _ 120 t (digT 50 120 t (by decide) (by decide) (by decide) (by decide)) rfl (by decide) (by decide) (by decide)
  · -- 2*
    have hT : Ea (43 :: 50 :: 42 :: t) = some ([43], numF [50] 0, 0, 42 :: t) := by
      have hs := Gq (D := [50]) (s := 42 :: t) (dgc 50 (by decide)).2 (.inr ⟨42, t, rfl, by decide⟩)
      unfold Ea
      rw [sgp]
      simp only
      rw [Eb (by decide)]
      have hd : Am 50 = true := by decide
      simp only [hd, if_true]
      have e : (50 :: 42 :: t : List Nat) = [50] ++ 42 :: t := rfl
      rw [e, hs.1, hs.2]
      have : Im (42 :: t) = none := by
        unfold Im; rw [Eb (by decide)]
        simp only
        rw [ht.dw]
        rcases ht with rfl | ⟨c, t, rfl, hc⟩
        · rfl
        · rcases hc with rfl | rfl <;> rfl
      rw [this]
      simp only
      rw [Eb (by decide)]
    exact two _ _ _ _ 42 t hT rfl (by decide) (by decide) (by decide)
  · -- x^
    have hca : Al (94 :: t) = (0, 1) := by
      unfold Al; rw [Eb (by decide)]
      simp only
      rw [ht.dw]
      rcases ht with rfl | ⟨c, t, rfl, hc⟩
      · rfl
      · rcases hc with rfl | rfl <;> rfl
    have hT := xT (94 :: t)
    rw [hca] at hT
    simp only [List.drop_zero] at hT
    rw [Eb (by decide)] at hT
    exact two _ _ _ _ 94 t hT rfl (by decide) (by decide) (by decide)
  · -- 3 4
    have hT : Ea (43 :: 51 :: 32 :: 52 :: t) = some ([43], numF [51] 0, 0, 52 :: t) := by
      have hs := Gq (D := [51]) (s := 32 :: 52 :: t) (dgc 51 (by decide)).2 (.inr ⟨32, _, rfl, by decide⟩)
      unfold Ea
      rw [sgp]
      simp only
      rw [Eb (by decide)]
      have hd : Am 51 = true := by decide
      simp only [hd, if_true]
      have e : (51 :: 32 :: 52 :: t : List Nat) = [51] ++ 32 :: 52 :: t := rfl
      rw [e, hs.1, hs.2]
      have e2 : (32 :: 52 :: t : List Nat).dropWhile isSp = 52 :: t := by
        have := Gi 1 (52 :: t)
        rw [show sp 1 ++ 52 :: t = 32 :: 52 :: t from rfl] at this
        rw [this, Eb (by decide)]
      have : Im (32 :: 52 :: t) = none := by unfold Im; rw [e2]; rfl
      rw [this]
      simp only [e2]
    exact two _ _ _ _ 52 t hT rfl (by decide) (by decide) (by decide)
  · exact exc_none (by simp) (term_bad (sgp _) (by decide) (by decide) (by decide))
  · have hT := xT (42 :: 50 :: t)
    rw [caN 42 _ (by decide) (by decide)] at hT
    simp only [List.drop_zero] at hT
    rw [Eb (by decide)] at hT
    exact two _ _ _ _ 42 _ hT rfl (by decide) (by decide) (by decide)
  · -- x^-1
    have hca : Al (94 :: 45 :: 49 :: t) = (0, 1) := by
      unfold Al; rw [Eb (by decide)]
      simp only
      rw [Eb (by decide)]
      rfl
    have hT := xT (94 :: 45 :: 49 :: t)
    rw [hca] at hT
    simp only [List.drop_zero] at hT
    rw [Eb (by decide)] at hT
    exact two _ _ _ _ 94 _ hT rfl (by decide) (by decide) (by decide)
  · exact two _ _ _ _ 47 _ (digT 49 47 (50 :: t) (by decide) (by decide) (by decide) (by decide)) rfl (by decide) (by decide) (by decide)
  · -- x^2^3
    have hca : Al (94 :: 50 :: 94 :: 51 :: t) = (2, 2) := by
      have hs := Gq (D := [50]) (s := 94 :: 51 :: t) (dgc 50 (by decide)).2 (.inr ⟨94, _, rfl, by decide⟩)
      unfold Al; rw [Eb (by decide)]
      simp only
      rw [Eb (by decide)]
      have hd : Am 50 = true := by decide
      simp only [hd, if_true]
      have e : (50 :: 94 :: 51 :: t : List Nat) = [50] ++ 94 :: 51 :: t := rfl
      rw [e, hs.1, hs.2]
      congr 1
      simp only [List.length_cons, List.length_append, List.length_nil]; lia
    have hT := xT (94 :: 50 :: 94 :: 51 :: t)
    rw [hca] at hT
    simp only [List.drop_succ_cons, List.drop_zero] at hT
    rw [Eb (by decide)] at hT
    exact two _ _ _ _ 94 _ hT rfl (by decide) (by decide) (by decide)
  · exact exc_none (by simp) (term_bad (sgp _) (by decide) (by decide) (by decide))
  · -- x x
    have e2 : (32 :: 120 :: t : List Nat).dropWhile isSp = 120 :: t := by
      have := Gi 1 (120 :: t)
      rw [show sp 1 ++ 120 :: t = 32 :: 120 :: t from rfl] at this
      rw [this, Eb (by decide)]
    have hca : Al (32 :: 120 :: t) = (0, 1) := by unfold Al; rw [e2]; rfl
    have hT := xT (32 :: 120 :: t)
    rw [hca] at hT
    simp only [List.drop_zero] at hT
    rw [e2] at hT
    exact two _ _ _ _ 120 _ hT rfl (by decide) (by decide) (by decide)
end Mine
end
section
open PySem
namespace Mine
set_option tactic.hygienic false
set_option autoImplicit false
theorem sum_app (x y : List (Int × Int)) (k : Int) : He (x ++ y) k = He x k + He y k := by
  unfold He; rw [List.map_append, List.sum_append]
theorem sum_range (a : List Int) (k : Nat) : ∀ n : Nat, (((List.range n).map fun (i : Nat) => (a.getD i 0, (i : Int))).map fun p => if p.2 = (k : Int) then p.1 else 0).sum = if k < n then a.getD k 0 else 0
  | 0 => by simp
  | n + 1 => by
    rw [List.range_succ, List.map_append, List.map_append, List.sum_append, sum_range a k n]
    simp only [List.map_cons, List.map_nil, List.sum_cons, List.sum_nil]
    by_cases h : n = k
    · subst h; simp
    · have hk : ¬ (n : Int) = (k : Int) := by exact mt Int.ofNat_inj.mp ‹_›
      rw [if_neg hk]
      by_cases h2 : k < n
      · rw [if_pos h2, if_pos (by exact Nat.lt_succ_of_lt ‹_›)]; simp
      · rw [if_neg h2, if_neg (by lia)]; simp
theorem sum_up (a : List Int) (k : Nat) : He (Ed a) (k : Int) = a.getD k 0 := by
  unfold He Ed
  rw [sum_range]
  by_cases h : k < a.length
  · rw [if_pos h]
  · rw [if_neg h, List.getD_eq_getElem?_getD, List.getElem?_eq_none (by exact Nat.le_of_not_lt ‹_›)]; rfl
theorem sum_text (a : List Int) (m h : Int) (k : Nat) : He (Aj a m h) (k : Int) = a.getD k 0 := by
  unfold Aj
  rw [sum_app, sum_app, sum_up]
  unfold He
  simp only [List.map_cons, List.map_nil, List.sum_cons, List.sum_nil]
  by_cases e : h = (k : Int)
  · simp only [e, if_true]; lia
  · simp only [e, if_false]; lia
theorem piece_pos (space gap zero : List Nat) (p : Int × Int) : 1 ≤ (Aq space gap zero p).length := by
  unfold Aq; simp only [List.length_append, List.length_cons]; lia
theorem join_len (space gap zero : List Nat) (sep : List Nat) : ∀ ts : List (Int × Int), ts.length ≤ (Au sep (ts.map (Aq space gap zero))).length
  | [] => by simp
  | [p] => by simpa [Au] using piece_pos space gap zero p
  | p :: q :: r => by
    have := join_len space gap zero sep (q :: r)
    have h1 := piece_pos space gap zero p
    simp only [List.map_cons, Au, List.length_append, List.length_cons] at this ⊢
    lia
structure Small (a : List Int) (m h : Int) : Prop where
  co : ∀ c ∈ a, c.natAbs ≤ 1100
  le : a.length ≤ 50
  hm : m.natAbs ≤ 1100
  h0 : 0 ≤ h
  h1 : h ≤ 100
theorem Small.mem {a : List Int} {m h : Int} (s : Small a m h) : ∀ p ∈ Aj a m h, p.1.natAbs ≤ 1100 ∧ 0 ≤ p.2 ∧ p.2 ≤ 100 := by
  intro p hp
  obtain ⟨co, le, hm, h0, h1⟩ := s
  unfold Aj Ed at hp
  simp only [List.cons_append, List.nil_append, List.mem_cons, List.mem_append, List.mem_map, List.mem_range, List.not_mem_nil, or_false] at hp
  rcases hp with rfl | ⟨n, hn, rfl⟩ | rfl
  · exact ⟨hm, h0, h1⟩
  · refine ⟨?_, ?_, ?_⟩
    · simp only
      rw [List.getD_eq_getElem?_getD, List.getElem?_eq_getElem hn]
      exact co _ (List.getElem_mem hn)
    · simp only; exact Int.natCast_nonneg _
    · simp only; with_reducible exact YG ‹_› ‹_›
  · refine ⟨?_, h0, h1⟩
    simp only; lia
theorem Small.ok {a : List Int} {m h : Int} (s : Small a m h) : Hb (Aj a m h) := by
  refine ⟨fun p hp => ?_, fun p hp => ?_⟩
  · exact (dig_ok (s.mem p hp).1).1
  · have h := s.mem p hp
    have := (dig_ok (n := p.2.toNat) (by exact ZH ‹_›)).1
    rwa [show ((p.2.toNat : Nat) : Int) = p.2 by exact ZI ‹_›] at this
theorem Hb.sub {ts us : List (Int × Int)} (h : Hb ts) (hs : ∀ p ∈ us, p ∈ ts) : Hb us := ⟨fun p hp => h.d1 p (hs p hp), fun p hp => h.d2 p (hs p hp)⟩
theorem read_good {a : List Int} {m h lead : Int} {zero : List Nat} (hz : zero = [] ∨ zero = [48]) (g : Nat) (ha : Ax a) (s : Small a m h)
    (hL : (sp g ++ Iy ((Aj a m h).map (Aq (sp g) (sp g) zero)) (sp g) lead m ++ sp g).length ≤ LIM) :
    Hg (sp g ++ Iy ((Aj a m h).map (Aq (sp g) (sp g) zero)) (sp g) lead m ++ sp g) = some (some a) := by
  have hend := read_end ha (sum_text a m h) (fun p hp => by have := s.mem p hp; exact ZJ ‹_›)
  obtain ⟨q, r, hqr⟩ : ∃ q r, Aj a m h = (m, h) :: q :: r := by
    unfold Aj
    cases hu : Ed a with
    | nil => exact ⟨_, _, rfl⟩
    | cons x y => exact ⟨_, _, rfl⟩
  have hlen : (Aj a m h).length ≤ 60 := by
    have := s.le
    simp only [Aj, Ed, List.length_append, List.length_cons, List.length_nil, List.length_map, List.length_range]; with_reducible exact Nat.le_trans (by repeat' first | assumption | apply Nat.add_le_add | exact Nat.le_refl _) (by decide)
  have hjl := join_len (sp g) (sp g) zero (sp g) (Aj a m h)
  have hok := s.ok
  rw [hqr] at hend hlen hjl hok hL ⊢
  have key : ∀ (t : List Nat), (∀ fuel, Av (fuel + ((m, h) :: q :: r).length) true t [] = Av fuel false [] (((m, h) :: q :: r).foldl addC [])) → ((m, h) :: q :: r).length ≤ t.length + 1 → t.length ≤ LIM → Hg t = some (some a) := by
    intro t ht hle hl
    unfold Hg
    rw [if_neg (by exact Nat.not_lt_of_le ‹_›)]
    have e : t.length + 2 = ((t.length + 1 - ((m, h) :: q :: r).length) + 1) + ((m, h) :: q :: r).length := by lia
    rw [e, ht]
    simp only [Av, and_self, if_true]
    rw [hend]
  refine key _ (fun fuel => ?_) ?_ hL
  · unfold Iy
    by_cases hc : lead = 1 ∧ m ≥ 0
    · rw [if_pos hc]
      have := read_lead hz g g g (r := []) (.inl rfl) r (m, h) q g fuel hok hc.2 (by lia)
      simp only [List.append_nil, List.append_assoc] at this ⊢
      exact this
    · rw [if_neg hc]
      have := Ib hz g g g (r := []) (.inl rfl) (q :: r) (m, h) true g fuel [] hok (by simp only [List.length_nil]; lia)
      simp only [List.append_nil, List.append_assoc] at this ⊢
      exact this
  · unfold Iy
    by_cases hc : lead = 1 ∧ m ≥ 0
    · rw [if_pos hc]
      simp only [List.length_append, List.length_drop] at hjl ⊢; lia
    · rw [if_neg hc]
      simp only [List.length_append] at hjl ⊢; lia
end Mine
end
section
open PySem
namespace Mine
set_option tactic.hygienic false
set_option autoImplicit false
theorem term_sp (g : Nat) : Ea (sp g) = none := by
  have h : (sp g).dropWhile isSp = [] := by
    have := Gi g []
    simpa using this
  unfold Ea Fl
  rw [h]
  rfl
theorem place_in (place : Int) (n : Nat) (h : 2 ≤ n) : 1 ≤ Hp place n ∧ Hp place n < n := by
  have h0 : 0 < (n : Int) - 1 := Int.sub_pos_of_lt (Int.ofNat_lt.mpr h)
  have h1 := Int.fmod_nonneg_of_pos place h0
  have h2 := Int.fmod_lt_of_pos place h0
  have hz : 0 ≤ 1 + place.fmod ((n : Int) - 1) := Int.add_nonneg (by decide) h1
  exact ⟨(Int.le_toNat hz).mpr (Int.le_add_of_nonneg_right h1), (Int.toNat_lt hz).mpr (Int.add_comm _ _ ▸ Int.add_lt_of_lt_sub_right h2)⟩
theorem read_bad {a : List Int} {m h place cut : Int} {zero b : List Nat} (hz : zero = [] ∨ zero = [48]) (g : Nat) (hb : b ∈ BADS) (s : Small a m h)
    (hL : (damOf ((Aj a m h).map (Aq (sp g) (sp g) zero)) (sp g) b (Hp place ((Aj a m h).map (Aq (sp g) (sp g) zero)).length) cut).length ≤ LIM) :
    Hg (damOf ((Aj a m h).map (Aq (sp g) (sp g) zero)) (sp g) b (Hp place ((Aj a m h).map (Aq (sp g) (sp g) zero)).length) cut) = some none := by
  have hLI : LIM = 1048576 := rfl
  have hlen : (Aj a m h).length = a.length + 2 := by
    simp only [Aj, Ed, List.length_append, List.length_cons, List.length_nil, List.length_map, List.length_range]; lia
  have hpl := place_in place (Aj a m h).length (by lia)
  have hle := s.le
  rw [List.length_map] at hL ⊢
  revert hL
  generalize hk : Hp place (Aj a m h).length = k at hpl
  unfold damOf
  by_cases hc : cut = 1
  · rw [if_pos hc]
    intro hL
    unfold Hg
    rw [if_neg (by exact Nat.not_lt_of_le ‹_›)]
    have : Av ((sp g).length + 2) true (sp g) [] = some none := by
      simp only [Av]
      rw [if_neg (by simp), term_sp]
    rw [this]
  · rw [if_neg hc]
    generalize ht : (if cut > 1 then Au (sp g) (((Aj a m h).map (Aq (sp g) (sp g) zero)).drop k) else []) = t
    intro hL
    have hst : Stop t := by
      rw [← ht]
      by_cases h1 : cut > 1
      · rw [if_pos h1, ← List.map_drop]
        cases hd : (Aj a m h).drop k with
        | nil => have := congrArg List.length hd; rw [List.length_drop] at this; simp only [List.length_nil] at this; lia
        | cons p r =>
          have := join_stop (sp g) (sp g) zero p r []
          rwa [List.append_nil] at this
      · rw [if_neg h1]; exact .inl rfl
    rw [← List.map_take] at hL ⊢
    have hsub : Hb ((Aj a m h).take k) := s.ok.sub (fun p hp => List.mem_of_mem_take hp)
    have hlk : ((Aj a m h).take k).length = k := by rw [List.length_take]; lia
    have hjl := join_len (sp g) (sp g) zero (sp g) ((Aj a m h).take k)
    cases htk : (Aj a m h).take k with
    | nil => rw [htk] at hlk; simp only [List.length_nil] at hlk; lia
    | cons p r =>
      rw [htk] at hsub hlk hjl hL
      have hrp := fun fuel => Ib hz g g 0 (r := 43 :: (b ++ t)) (.inr ⟨43, b ++ t, rfl, .inl rfl⟩) r p true 0 fuel [] hsub (by simp only [List.length_nil]; lia)
      have e : Au (sp g) ((p :: r).map (Aq (sp g) (sp g) zero)) ++ [43] ++ b ++ t = sp 0 ++ (Au (sp g) ((p :: r).map (Aq (sp g) (sp g) zero)) ++ (sp 0 ++ 43 :: (b ++ t))) := by
        simp [sp]
      have hfl : ((p :: r).foldl addC []).length < LIM := by
        have : ∀ (ts : List (Int × Int)) (es : List (Int × Int)), (ts.foldl addC es).length ≤ es.length + ts.length := by
          intro ts
          induction ts with
          | nil => intro es; simp
          | cons x y ih =>
            intro es
            have h1 := ih (addC es x)
            have h2 : (addC es x).length ≤ es.length + 1 := Ip _ _ _
            simp only [List.foldl_cons, List.length_cons] at h1 ⊢; lia
        have := this (p :: r) []
        simp only [List.length_nil] at this; lia
      unfold Hg
      rw [if_neg (by exact Nat.not_lt_of_le ‹_›)]
      generalize hT : Au (sp g) ((p :: r).map (Aq (sp g) (sp g) zero)) ++ [43] ++ b ++ t = T at hL e
      have hTl : (p :: r).length + 1 ≤ T.length := by
        rw [← hT]; simp only [List.length_append, List.length_cons, List.length_nil] at hjl ⊢; lia
      have ef : T.length + 2 = ((T.length - (p :: r).length) + 2) + (p :: r).length := by lia
      have : Av (T.length + 2) true T [] = some none := by
        rw [ef]
        conv => lhs; arg 3; rw [e]
        rw [hrp]
        exact bad_read hb hst _ _ hfl
      rw [this]
end Mine
end
section
open PySem
namespace Mine
set_option tactic.hygienic false
set_option autoImplicit false
theorem sp_len (g : Nat) : (sp g).length = g := by unfold sp; simp
theorem log_le {n : Nat} (h : n ≤ 1100) : n.log2 < 1000 := by
  by_cases h0 : n = 0
  · subst h0; decide
  · rw [Nat.log2_lt h0]
    exact Nat.lt_of_le_of_lt h (Nat.lt_of_lt_of_le (by decide : 1100 < 2 ^ 11) (Nat.pow_le_pow_right (by decide) (by decide)))
theorem Jw {x : Int} (h0 : 0 ≤ x) (h1 : x ≤ 1100) : (An x).length ≤ 10 := by
  have := (dig_ok (n := x.toNat) (by lia)).2
  rwa [show ((x.toNat : Nat) : Int) = x by exact Int.toNat_of_nonneg ‹_›] at this
theorem nam_len {grade : Int} {gap zero : List Nat} (h0 : 0 ≤ grade) (h1 : grade ≤ 1100) (hg : gap.length ≤ 10) (hz : zero.length ≤ 1) : (Hm grade gap zero).length ≤ 33 := by
  have := Jw h0 h1
  unfold Hm
  split <;> simp only [List.length_append, List.length_cons, List.length_nil] <;> (first | exact Nat.le_add_left _ _ | with_reducible exact Nat.le_trans (by repeat' first | assumption | apply Nat.add_le_add | exact Nat.le_refl _) (by decide))
theorem bod_len {size grade : Int} {gap zero : List Nat} (hs : 0 ≤ size ∧ size ≤ 1100) (h : 0 ≤ grade ∧ grade ≤ 1100) (hg : gap.length ≤ 10) (hz : zero.length ≤ 1) : (Ep size grade gap zero).length ≤ 100 := by
  have h1 := Jw hs.1 hs.2
  have h2 := nam_len h.1 h.2 hg hz
  unfold Ep
  repeat' split
  all_goals (try simp only [List.length_append, List.length_cons, List.length_nil]); (first | with_reducible exact Nat.le_trans ‹_› (by decide) | with_reducible exact Nat.le_trans (by repeat' first | assumption | apply Nat.add_le_add | exact Nat.le_refl _) (by decide))
theorem pie_len {p : Int × Int} {space gap zero : List Nat} (hs : p.1.natAbs ≤ 1100) (h : 0 ≤ p.2 ∧ p.2 ≤ 1100) (hsp : space.length ≤ 10) (hg : gap.length ≤ 10) (hz : zero.length ≤ 1) : (Aq space gap zero p).length ≤ 120 := by
  have := bod_len (size := (p.1.natAbs : Int)) (gap := gap) (zero := zero) ⟨by exact Int.natCast_nonneg _, by exact ZR ‹_›⟩ h hg hz
  unfold Aq
  simp only [List.length_append, List.length_cons, List.length_nil]; with_reducible exact Nat.le_trans (by repeat' first | assumption | apply Nat.add_le_add | exact Nat.le_refl _) (by decide)
theorem body_ok {size grade : Int} {gap zero : List Nat} (hs : 0 ≤ size ∧ size ≤ 1100) (h : 0 ≤ grade ∧ grade ≤ 1100) (hg : gap.length ≤ 10) (hz : zero.length ≤ 1) : Gu size grade gap zero = true := by
  have h1 := Jw hs.1 hs.2
  have h2 := Jw h.1 h.2
  have h3 := log_le (n := size.natAbs) (by lia)
  have h4 := log_le (n := grade.natAbs) (by lia)
  unfold Gu
  simp only [Bool.and_eq_true, decide_eq_true_eq]
  exact ⟨⟨⟨⟨⟨hg, by with_reducible exact Nat.le_trans ‹_› (by decide)⟩, h3⟩, h4⟩, by with_reducible exact Nat.le_trans ‹_› (by decide)⟩, by with_reducible exact Nat.le_trans ‹_› (by decide)⟩
theorem sum_le (k : Nat) : ∀ ps : List (List Nat), (∀ p ∈ ps, p.length ≤ k) → (ps.map List.length).sum ≤ ps.length * k
  | [], _ => by simp
  | p :: r, h => by
    have h1 := sum_le k r (fun q hq => h q (List.mem_cons_of_mem _ hq))
    have h2 := h p List.mem_cons_self
    simp only [List.map_cons, List.sum_cons, List.length_cons, Nat.succ_mul]; lia
theorem join_le (sep : List Nat) : ∀ ps : List (List Nat), (Au sep ps).length ≤ (ps.map List.length).sum + ps.length * sep.length
  | [] => by simp [Au]
  | [p] => by simp [Au]
  | p :: q :: r => by
    have := join_le sep (q :: r)
    simp only [Au, List.length_append, List.map_cons, List.sum_cons, List.length_cons, Nat.succ_mul] at this ⊢
    lia
theorem bads_len {b : List Nat} (h : b ∈ BADS) : b.length ≤ 10 := by
  have : BADS.all (fun b => decide (b.length ≤ 10)) = true := by decide
  have := List.all_eq_true.mp this b h
  simpa using this
theorem texts_ok {a : List Int} {m h lead place cut : Int} {zero b : List Nat} (hz : zero = [] ∨ zero = [48]) {g : Nat} (hg : g ≤ 5) (hb : b ∈ BADS) (ha : Ax a) (s : Small a m h) :
    TextsOk a (sp g) zero m h lead b place cut ((Aj a m h).map (Aq (sp g) (sp g) zero)) := by
  have hLI : LIM = 1048576 := rfl
  have hgl : (sp g).length ≤ 10 := by rw [sp_len]; with_reducible exact Nat.le_trans ‹_› (by decide)
  have hzl : zero.length ≤ 1 := by rcases hz with rfl | rfl <;> simp
  have hbl := bads_len hb
  have hle := s.le
  have hlen : (Aj a m h).length = a.length + 2 := by
    simp only [Aj, Ed, List.length_append, List.length_cons, List.length_nil, List.length_map, List.length_range]; lia
  have hps : ∀ p ∈ (Aj a m h).map (Aq (sp g) (sp g) zero), p.length ≤ 120 := by
    intro p hp
    rw [List.mem_map] at hp
    obtain ⟨q, hq, rfl⟩ := hp
    have := s.mem q hq
    exact pie_len this.1 ⟨this.2.1, by exact ZK ‹_›⟩ hgl hgl hzl
  have hsum := sum_le 120 _ hps
  rw [List.length_map, hlen] at hsum
  have hbnd : ∀ qs : List (List Nat), (qs.map List.length).sum ≤ (((Aj a m h).map (Aq (sp g) (sp g) zero)).map List.length).sum → qs.length ≤ 52 → (Au (sp g) qs).length ≤ 8000 := by
    intro qs h1 h2
    have h3 := join_le (sp g) qs
    have h4 : qs.length * (sp g).length ≤ 52 * 10 := Nat.mul_le_mul h2 hgl
    lia
  refine ⟨?_, by with_reducible exact Nat.le_trans ‹_› (by decide), hgl, hbl, by lia, read_good hz g ha s ?_, read_bad hz g hb s ?_⟩
  · unfold Hi
    have hall : (Aj a m h).all (fun p => Gu (p.1.natAbs : Int) p.2 (sp g) zero) = true := List.all_eq_true.mpr fun p hp => by
      have := s.mem p hp
      exact body_ok ⟨by exact Int.natCast_nonneg _, by exact ZL ‹_›⟩ ⟨this.2.1, by exact ZK ‹_›⟩ hgl hzl
    rw [if_pos ⟨hgl, by lia, hall⟩]
  · have := hbnd _ (Nat.le_refl _) (by rw [List.length_map]; lia)
    unfold Iy
    split <;> simp only [List.length_append, List.length_drop] <;> (first | lia | with_reducible exact Nat.le_trans (by repeat' first | assumption | apply Nat.add_le_add | exact Nat.le_refl _) (by decide))
  · generalize hk : Hp place _ = k
    have h1 := hbnd (((Aj a m h).map (Aq (sp g) (sp g) zero)).take k) (Ik _ k).1 (by rw [List.length_take, List.length_map]; lia)
    have h2 := hbnd (((Aj a m h).map (Aq (sp g) (sp g) zero)).drop k) (Ik _ k).2 (by rw [List.length_drop, List.length_map]; lia)
    unfold damOf
    repeat' split
    all_goals (try simp only [List.length_append, List.length_cons, List.length_nil]); (first | with_reducible exact Nat.le_trans ‹_› (by decide) | with_reducible exact Nat.le_trans (by repeat' first | assumption | apply Nat.add_le_add | exact Nat.le_refl _) (by decide))
end Mine
end
section
open PySem
namespace Mine
set_option tactic.hygienic false
set_option autoImplicit false
noncomputable def pcS (p : Int × Int) : List Nat := Aq [32] [] [] p
noncomputable def Ef (ts : List (Int × Int)) : List Nat := ts.flatMap fun p => 32 :: pcS p
noncomputable def Hn (p : Int × Int) : List Nat := (if p.1 < 0 then [45] else []) ++ Ep (p.1.natAbs : Int) p.2 [] []
noncomputable def Ga : List (Int × Int) → List Nat
  | [] => [48]
  | p :: ts => Hn p ++ Ef ts
theorem join_rest : ∀ (ts : List (Int × Int)) (p : Int × Int), Au [32] ((p :: ts).map pcS) = pcS p ++ Ef ts
  | [], p => by simp [Au, Ef]
  | q :: ts, p => by
    have := join_rest ts q
    simp only [List.map_cons, Au] at this ⊢
    rw [this]
    simp [Ef]
theorem pc_eq (p : Int × Int) : pcS p = (if p.1 < 0 then 45 else 43) :: 32 :: Ep (p.1.natAbs : Int) p.2 [] [] := by
  unfold pcS Aq; rfl
theorem rest_stop (ts : List (Int × Int)) : ∃ m r, Ef ts = sp m ++ r ∧ Stop r := by
  cases ts with
  | nil => exact ⟨0, [], rfl, .inl rfl⟩
  | cons p r =>
    refine ⟨1, pcS p ++ Ef r, rfl, ?_⟩
    have := Iw [32] [] [] p (Ef r)
    exact this
theorem body_stop {size grade : Int} {sg : List Nat} (ts : List (Int × Int)) (hs : sg = [43] ∨ sg = [45] ∨ sg = []) (hd : DigOk size) (hg : DigOk grade) (n n' : Nat) (hn : sg = [] → n' = 0) :
    Ea (sp n ++ (sg ++ (sp n' ++ (Ep size grade [] [] ++ Ef ts)))) = some (sg, size, grade, (Ef ts).dropWhile isSp) := by
  obtain ⟨m, r, e, hr⟩ := rest_stop ts
  have := Kc (sg := sg) (zero := []) hs (.inl rfl) hd hg hr n n' 0 m hn
  rw [e, Gi, hr.dw]
  exact this
theorem rest_dw (p : Int × Int) (ts : List (Int × Int)) : (Ef (p :: ts)).dropWhile isSp = pcS p ++ Ef ts := by
  have e : Ef (p :: ts) = sp 1 ++ (pcS p ++ Ef ts) := by simp [Ef, sp]
  have := (Iw [32] [] [] p (Ef ts)).dw
  rw [e, Gi]
  exact this
theorem read_rest : ∀ (ts : List (Int × Int)) (fuel : Nat) (es : List (Int × Int)), Hb ts → es.length + ts.length ≤ 1000 →
    Av (fuel + ts.length) false ((Ef ts).dropWhile isSp) es = Av fuel false [] (ts.foldl addC es)
  | [], fuel, es, _, _ => rfl
  | p :: ts, fuel, es, ok, hl => by
    have hL : LIM = 1048576 := rfl
    have hT := body_stop (sg := sgn p.1) ts (by unfold sgn; split; exact .inr (.inl rfl); exact .inl rfl) (ok.d1 p List.mem_cons_self) (ok.d2 p List.mem_cons_self) 0 1 (by unfold sgn; intro h; cases h)
    have e : sp 0 ++ (sgn p.1 ++ (sp 1 ++ (Ep (p.1.natAbs : Int) p.2 [] [] ++ Ef ts))) = pcS p ++ Ef ts := by
      rw [pc_eq]; rfl
    rw [e] at hT
    have hlen : (addC es p).length ≤ es.length + 1 := Ip _ _ _
    have ih := read_rest ts fuel (addC es p) (ok.sub fun x hx => List.mem_cons_of_mem _ hx) (by simp only [List.length_cons] at hl ⊢; lia)
    have ef : fuel + (p :: ts).length = (fuel + ts.length) + 1 := by simp only [List.length_cons]; exact rfl
    rw [rest_dw, ef, Gn hT (by rw [pc_eq]; simp) (.inr (by simp [sgn])) (by simp only [List.length_cons] at hl; lia), add_sgn]
    exact ih
theorem read_show (p : Int × Int) (ts : List (Int × Int)) (fuel : Nat) (ok : Hb (p :: ts)) (hl : (p :: ts).length ≤ 1000) :
    Av (fuel + (p :: ts).length) true (Ga (p :: ts)) [] = Av fuel false [] ((p :: ts).foldl addC []) := by
  have hL : LIM = 1048576 := rfl
  have hlen : (addC [] p).length ≤ 1 := Ip _ _ _
  have ih := read_rest ts fuel (addC [] p) (ok.sub fun x hx => List.mem_cons_of_mem _ hx) (by simp only [List.length_cons] at hl ⊢; lia)
  have ef : fuel + (p :: ts).length = (fuel + ts.length) + 1 := by simp only [List.length_cons]; exact rfl
  by_cases h : p.1 < 0
  · have hT := body_stop (sg := [45]) ts (.inr (.inl rfl)) (ok.d1 p List.mem_cons_self) (ok.d2 p List.mem_cons_self) 0 0 (fun _ => rfl)
    have e : sp 0 ++ ([45] ++ (sp 0 ++ (Ep (p.1.natAbs : Int) p.2 [] [] ++ Ef ts))) = Ga (p :: ts) := by
      simp only [Ga, Hn, if_pos h, sp, List.replicate_zero, List.nil_append, List.append_assoc]
    rw [e] at hT
    have hs : ([45] : List Nat) = sgn p.1 := by unfold sgn; rw [if_pos h]
    rw [ef, Gn hT (by rw [← e]; simp) (.inl rfl) (by simp only [List.length_nil]; with_reducible exact Nat.lt_of_le_of_lt (by repeat' first | assumption | apply Nat.add_le_add | exact Nat.le_refl _) (by decide)), hs, add_sgn]
    exact ih
  · have hT := body_stop (sg := []) ts (.inr (.inr rfl)) (ok.d1 p List.mem_cons_self) (ok.d2 p List.mem_cons_self) 0 0 (fun _ => rfl)
    have e : sp 0 ++ ([] ++ (sp 0 ++ (Ep (p.1.natAbs : Int) p.2 [] [] ++ Ef ts))) = Ga (p :: ts) := by
      simp only [Ga, Hn, if_neg h, sp, List.replicate_zero, List.nil_append]
    rw [e] at hT
    have hne : Ga (p :: ts) ≠ [] := by
      intro h0; rw [h0] at hT; revert hT; simp [Ea, Fl]
    rw [ef, Gn hT hne (.inl rfl) (by simp only [List.length_nil]; with_reducible exact Nat.lt_of_le_of_lt (by repeat' first | assumption | apply Nat.add_le_add | exact Nat.le_refl _) (by decide)), add_nil _ _ (by exact Int.not_lt.mp ‹_›)]
    exact ih
end Mine
end
section
open PySem
namespace Mine
set_option tactic.hygienic false
set_option autoImplicit false
noncomputable def Kh (a : List Int) (k : Nat) : List (Int × Int) := ((List.range k).reverse.filter fun n => a.getD n 0 != 0).map fun (n : Nat) => (a.getD n 0, (n : Int))
theorem down_eq (a : List Int) : Aw a = Kh a a.length := rfl
theorem Kr (a : List Int) (k : Nat) : Kh a (k + 1) = (if a.getD k 0 = 0 then [] else [(a.getD k 0, (k : Int))]) ++ Kh a k := by
  unfold Kh
  rw [List.range_succ, List.reverse_append, List.reverse_cons, List.reverse_nil, List.nil_append, List.filter_append, List.map_append]
  congr 1
  by_cases h : a.getD k 0 = 0
  · rw [if_pos h]; simp only [List.filter_cons, h]; rfl
  · rw [if_neg h]
    have : (a.getD k 0 != 0) = true := by simpa using h
    simp only [List.filter_cons, this]; rfl
theorem sum_downK (a : List Int) (k : Nat) : ∀ n : Nat, He (Kh a n) (k : Int) = if k < n then a.getD k 0 else 0
  | 0 => by simp [Kh, He]
  | n + 1 => by
    rw [Kr, sum_app, sum_downK a k n]
    have h1 : He (if a.getD n 0 = 0 then [] else [(a.getD n 0, (n : Int))]) (k : Int) = if n = k then a.getD k 0 else 0 := by
      by_cases h : a.getD n 0 = 0
      · rw [if_pos h]
        by_cases e : n = k
        · subst e; rw [if_pos rfl, h]; rfl
        · rw [if_neg e]; rfl
      · rw [if_neg h]
        unfold He
        simp only [List.map_cons, List.map_nil, List.sum_cons, List.sum_nil]
        by_cases e : n = k
        · subst e; simp
        · have : ¬ (n : Int) = (k : Int) := by exact mt Int.ofNat_inj.mp ‹_›
          rw [if_neg this, if_neg e]; rfl
    rw [h1]
    by_cases e : n = k
    · subst e; simp
    · rw [if_neg e]
      by_cases h2 : k < n
      · rw [if_pos h2, if_pos (by exact Nat.lt_succ_of_lt ‹_›)]; exact Int.zero_add _
      · rw [if_neg h2, if_neg (by lia)]; exact Int.zero_add _
theorem sum_down (a : List Int) (k : Nat) : He (Aw a) (k : Int) = a.getD k 0 := by
  rw [down_eq, sum_downK]
  by_cases h : k < a.length
  · rw [if_pos h]
  · rw [if_neg h, List.getD_eq_getElem?_getD, List.getElem?_eq_none (by exact Nat.le_of_not_lt ‹_›)]; rfl
structure Hx (a : List Int) : Prop where
  co : ∀ c ∈ a, c.natAbs ≤ 1100
  le : a.length ≤ 50
theorem Hx.mem {a : List Int} (s : Hx a) : ∀ p ∈ Aw a, p.1.natAbs ≤ 1100 ∧ 0 ≤ p.2 ∧ p.2 ≤ 100 := by
  intro p hp
  obtain ⟨co, le⟩ := s
  unfold Aw at hp
  simp only [List.mem_map, List.mem_filter, List.mem_reverse, List.mem_range] at hp
  obtain ⟨n, ⟨hn, _⟩, rfl⟩ := hp
  refine ⟨?_, ?_, ?_⟩
  · simp only
    rw [List.getD_eq_getElem?_getD, List.getElem?_eq_getElem hn]
    exact co _ (List.getElem_mem hn)
  · simp only; exact Int.natCast_nonneg _
  · simp only; with_reducible exact YG ‹_› ‹_›
theorem Hx.ok {a : List Int} (s : Hx a) : Hb (Aw a) := by
  refine ⟨fun p hp => ?_, fun p hp => ?_⟩
  · exact (dig_ok (s.mem p hp).1).1
  · have h := s.mem p hp
    have := (dig_ok (n := p.2.toNat) (by exact ZH ‹_›)).1
    rwa [show ((p.2.toNat : Nat) : Int) = p.2 by exact ZI ‹_›] at this
theorem down_len (a : List Int) : (Aw a).length ≤ a.length := by
  unfold Aw
  rw [List.length_map]
  refine Nat.le_trans (List.length_filter_le _ _) ?_
  simp
theorem step_nil (k : Nat) (c : Int) : Er [] k c = Hn (c, (k : Int)) := by
  unfold Er Ej El Hn Ep Hm
  match k with
  | 0 => by_cases h : c < 0 <;> simp [h]
  | 1 => by_cases h : c < 0 <;> by_cases h2 : (c.natAbs : Int) = 1 <;> simp [h, h2]
  | k + 2 =>
    have h1 : ¬ ((k + 2 : Nat) : Int) = 0 := by lia
    have h3 : ¬ ((k + 2 : Nat) : Int) = 1 := by lia
    have h4 : ¬ (k + 2 = 0) := by lia
    have h5 : ¬ (k + 2 = 1) := by lia
    by_cases h : c < 0 <;> by_cases h2 : (c.natAbs : Int) = 1 <;> simp only [h, h1, h2, h3, h4, h5, if_true, if_false, ne_eq, not_true, not_false_iff, and_true, true_or, reduceCtorEq, List.append_nil, List.nil_append, List.append_assoc, List.cons_append]
theorem step_cons (out : List Nat) (ho : out ≠ []) (k : Nat) (c : Int) : Er out k c = out ++ 32 :: pcS (c, (k : Int)) := by
  rw [pc_eq]
  unfold Er Ej El Ep Hm
  match k with
  | 0 => by_cases h : c < 0 <;> simp [h, ho]
  | 1 => by_cases h : c < 0 <;> by_cases h2 : (c.natAbs : Int) = 1 <;> simp [h, h2, ho]
  | k + 2 =>
    have h1 : ¬ ((k + 2 : Nat) : Int) = 0 := by lia
    have h3 : ¬ ((k + 2 : Nat) : Int) = 1 := by lia
    have h4 : ¬ (k + 2 = 0) := by lia
    have h5 : ¬ (k + 2 = 1) := by lia
    by_cases h : c < 0 <;> by_cases h2 : (c.natAbs : Int) = 1 <;> simp only [h, ho, h1, h2, h3, h4, h5, if_true, if_false, ne_eq, not_true, not_false_iff, and_true, true_or, reduceCtorEq, List.append_nil, List.nil_append, List.append_assoc, List.cons_append]
end Mine
end
section
open PySem
namespace Mine
set_option tactic.hygienic false
set_option autoImplicit false
theorem Kq {a : List Int} (s : Hx a) {k : Nat} (h : k < a.length) : (a.getD k 0).natAbs ≤ 1100 := by
  rw [List.getD_eq_getElem?_getD, List.getElem?_eq_getElem h]
  exact s.co _ (List.getElem_mem h)
theorem getD_sm {a : List Int} {k : Nat} (h : k < a.length) : a[k]? = some (a.getD k 0) := by
  rw [List.getD_eq_getElem?_getD, List.getElem?_eq_getElem h]; rfl
theorem head_len {c : Int} {k : Nat} (hc : c.natAbs ≤ 1100) (hk : k ≤ 100) : (Hn (c, (k : Int))).length ≤ 101 := by
  have := bod_len (size := (c.natAbs : Int)) (grade := (k : Int)) (gap := []) (zero := []) ⟨by exact Int.natCast_nonneg _, by exact ZR ‹_›⟩ ⟨by exact Int.natCast_nonneg _, by lia⟩ (by simp) (by simp)
  unfold Hn
  split <;> simp only [List.length_append, List.length_cons, List.length_nil] <;> with_reducible exact Nat.le_trans (by repeat' first | assumption | apply Nat.add_le_add | exact Nat.le_refl _) (by decide)
theorem pc_len {c : Int} {k : Nat} (hc : c.natAbs ≤ 1100) (hk : k ≤ 100) : (pcS (c, (k : Int))).length ≤ 120 :=
  pie_len (p := (c, (k : Int))) hc ⟨by simp only; exact Int.natCast_nonneg _, by simp only; lia⟩ (by simp) (by simp) (by simp)
theorem show_go {a : List Int} (s : Hx a) : ∀ (k : Nat) (out : List Nat), k ≤ a.length → out ≠ [] → out.length + 121 * k ≤ 10000 → Fa a k out = some (out ++ Ef (Kh a k))
  | 0, out, _, _, _ => by simp [Fa, Ef, Kh]
  | k + 1, out, hk, ho, hl => by
    have hLI : LIM = 1048576 := rfl
    have hle := s.le
    simp only [Fa, getD_sm (show k < a.length by exact Nat.lt_of_succ_le ‹_›)]
    rw [Kr]
    by_cases h0 : a.getD k 0 = 0
    · rw [if_pos h0, if_pos h0, show_go s k out (by exact Nat.le_of_succ_le ‹_›) ho (by lia)]; rfl
    · rw [if_neg h0, if_neg h0, step_cons out ho]
      have h1 := pc_len (k := k) (Kq s (show k < a.length by exact Nat.lt_of_succ_le ‹_›)) (by with_reducible exact YL ‹_› ‹_› (by decide))
      have h2 : (out ++ 32 :: pcS (a.getD k 0, (k : Int))).length ≤ out.length + 121 := by
        simp only [List.length_append, List.length_cons]; lia
      rw [if_pos ⟨log_le (by with_reducible exact YL ‹_› ‹_› (by decide)), log_le (Kq s (by exact Nat.lt_of_succ_le ‹_›)), by lia⟩, show_go s k _ (by exact Nat.le_of_succ_le ‹_›) (by simp) (by lia)]
      simp [Ef]
theorem head_ne {c : Int} {k : Nat} (hc : c.natAbs ≤ 1100) (hk : k ≤ 100) : Hn (c, (k : Int)) ≠ [] := by
  have hd := (dig_ok hc).1.dg.1
  unfold Hn Ep Hm
  intro h
  rw [List.append_eq_nil_iff] at h
  have h2 := h.2
  revert h2
  simp only
  repeat' split
  all_goals simp [hd]
theorem show_start {a : List Int} (s : Hx a) : ∀ k : Nat, k ≤ a.length → Fa a k [] = some (match Kh a k with | [] => [] | p :: ts => Hn p ++ Ef ts)
  | 0, _ => by simp [Fa, Kh]
  | k + 1, hk => by
    have hLI : LIM = 1048576 := rfl
    have hle := s.le
    simp only [Fa, getD_sm (show k < a.length by exact Nat.lt_of_succ_le ‹_›)]
    rw [Kr]
    by_cases h0 : a.getD k 0 = 0
    · rw [if_pos h0, if_pos h0, show_start s k (by exact Nat.le_of_succ_le ‹_›)]; rfl
    · have hsm := Kq s (show k < a.length by exact Nat.lt_of_succ_le ‹_›)
      have h1 := head_len (k := k) hsm (by with_reducible exact YL ‹_› ‹_› (by decide))
      rw [if_neg h0, if_neg h0, step_nil, if_pos ⟨log_le (by with_reducible exact YL ‹_› ‹_› (by decide)), log_le hsm, by with_reducible exact Nat.le_trans ‹_› (by decide)⟩, show_go s k _ (by exact Nat.le_of_succ_le ‹_›) (head_ne hsm (by with_reducible exact YL ‹_› ‹_› (by decide))) (by lia)]
      rfl
theorem showS_eq {a : List Int} (s : Hx a) : showS a = some (Ga (Aw a)) := by
  unfold showS
  rw [show_start s a.length (Nat.le_refl _), ← down_eq]
  cases h : Aw a with
  | nil => simp [Ga]
  | cons p ts =>
    have hp := s.mem p (by rw [h]; exact List.mem_cons_self)
    have hne : Hn p ≠ [] := by
      have := head_ne (c := p.1) (k := p.2.toNat) hp.1 (by exact ZM ‹_›)
      rwa [show ((p.2.toNat : Nat) : Int) = p.2 by exact ZI ‹_›] at this
    have : Hn p ++ Ef ts ≠ [] := by simp [hne]
    simp only [Ga, this, if_false]
theorem shownS_eq {a : List Int} (s : Hx a) : Km a = some (Ga (Aw a)) := by
  have hLI : LIM = 1048576 := rfl
  have hle := s.le
  have hdl := down_len a
  have hall : (Aw a).all (fun p => Gu (p.1.natAbs : Int) p.2 [] []) = true := List.all_eq_true.mpr fun p hp => by
    have := s.mem p hp
    exact body_ok ⟨by exact Int.natCast_nonneg _, by exact ZL ‹_›⟩ ⟨this.2.1, by exact ZK ‹_›⟩ (by simp) (by simp)
  have hpc : Hi (Aw a) [32] [] [] = some ((Aw a).map pcS) := by
    unfold Hi
    rw [if_pos ⟨by simp, by lia, hall⟩]; rfl
  have hsum := sum_le 120 ((Aw a).map pcS) (fun q hq => by
    rw [List.mem_map] at hq
    obtain ⟨p, hp, rfl⟩ := hq
    have := s.mem p hp
    exact pie_len this.1 ⟨this.2.1, by exact ZK ‹_›⟩ (by simp) (by simp) (by simp))
  unfold Km
  rw [if_neg (by lia), hpc]
  simp only
  rw [List.length_map] at hsum ⊢
  rw [if_pos (by lia)]
  cases h : Aw a with
  | nil => simp [Ga, Au]
  | cons p ts =>
    rw [join_rest, pc_eq]
    by_cases hn : p.1 < 0
    · simp [hn, Ga, Hn]
    · simp [hn, Ga, Hn]
theorem read_shown {a : List Int} (ha : Ax a) (s : Hx a) : Hg (Ga (Aw a)) = some (some a) := by
  have hLI : LIM = 1048576 := rfl
  have hend := read_end ha (sum_down a) (fun p hp => by have := s.mem p hp; exact ZJ ‹_›)
  have hok := s.ok
  have hdl := down_len a
  have hle := s.le
  have hmem := s.mem
  revert hend hok hdl hmem
  cases h : Aw a with
  | nil =>
    intro hend _ _ _
    have ha0 : a = [] := by
      have : readEnd [] = some [] := by decide +kernel
      simp only [List.foldl_nil] at hend
      rw [this] at hend; cases hend; rfl
    subst ha0
    decide +kernel
  | cons p ts =>
    intro hend hok hdl hmem
    have hres : ∀ us : List (Int × Int), us.length ≤ (Ef us).length ∧ ((∀ p ∈ us, p.1.natAbs ≤ 1100 ∧ 0 ≤ p.2 ∧ p.2 ≤ 100) → (Ef us).length ≤ 121 * us.length) := by
      intro us
      induction us with
      | nil => simp [Ef]
      | cons x y ih =>
        have e : Ef (x :: y) = 32 :: pcS x ++ Ef y := by simp [Ef]
        rw [e]
        refine ⟨by have := ih.1; simp only [List.length_append, List.length_cons]; lia, fun hm => ?_⟩
        have h1 := ih.2 (fun q hq => hm q (List.mem_cons_of_mem _ hq))
        have h2 := hm x List.mem_cons_self
        have h3 : (pcS x).length ≤ 120 := pie_len h2.1 ⟨h2.2.1, by exact ZK ‹_›⟩ (by simp) (by simp) (by simp)
        simp only [List.length_append, List.length_cons]; lia
    have hp := hmem p List.mem_cons_self
    have hh := head_len (c := p.1) (k := p.2.toNat) hp.1 (by exact ZM ‹_›)
    rw [show ((p.2.toNat : Nat) : Int) = p.2 by exact ZI ‹_›] at hh
    have hh' : (Hn p).length ≤ 101 := hh
    have h1 := hres ts
    have h2 := h1.2 (fun q hq => hmem q (List.mem_cons_of_mem _ hq))
    have hl : (Ga (p :: ts)).length = (Hn p).length + (Ef ts).length := by simp [Ga]
    simp only [List.length_cons] at hdl
    unfold Hg
    rw [if_neg (by lia)]
    have e : (Ga (p :: ts)).length + 2 = (((Ga (p :: ts)).length + 1 - (p :: ts).length) + 1) + (p :: ts).length := by
      simp only [List.length_cons]; lia
    rw [e, read_show p ts _ hok (by simp only [List.length_cons]; lia)]
    simp only [Av, and_self, if_true]
    rw [hend]
end Mine
end
section
open PySem
namespace Mine
set_option tactic.hygienic false
set_option autoImplicit false
noncomputable def co (a : List Int) (n : Nat) : Int := a.getD n 0
noncomputable def sm (f : Nat → Int) : Nat → Int
  | 0 => 0
  | n + 1 => sm f n + f n
noncomputable def cv (f g : Nat → Int) (n : Nat) : Int := sm (fun k => f k * g (n - k)) (n + 1)
theorem Ez {f g : Nat → Int} : ∀ n, (∀ k, k < n → f k = g k) → sm f n = sm g n
  | 0, _ => rfl
  | n + 1, h => by simp only [sm]; rw [Ez n (fun k hk => h k (by exact Nat.lt_succ_of_lt ‹_›)), h n (by exact Nat.lt_succ_self _)]
theorem Fz {f : Nat → Int} (n : Nat) (h : ∀ k, k < n → f k = 0) : sm f n = 0 := by
  induction n with
  | zero => rfl
  | succ n ih => simp only [sm]; rw [ih (fun k hk => h k (by exact Nat.lt_succ_of_lt ‹_›)), h n (by exact Nat.lt_succ_self _)]; rfl
theorem sm_add (f g : Nat → Int) (n : Nat) : sm (fun k => f k + g k) n = sm f n + sm g n := by
  induction n with
  | zero => rfl
  | succ n ih => simp only [sm]; rw [ih]; lia
theorem sm_mul (c : Int) (f : Nat → Int) (n : Nat) : sm (fun k => c * f k) n = c * sm f n := by
  induction n with
  | zero => simp [sm]
  | succ n ih => simp only [sm]; rw [ih, Int.mul_add]
theorem sm_one {f : Nat → Int} {n d : Nat} (hd : d < n) (h : ∀ k, k < n → k ≠ d → f k = 0) : sm f n = f d := by
  induction n with
  | zero => exact absurd ‹_› (Nat.not_lt_zero _)
  | succ n ih =>
    simp only [sm]
    by_cases e : d = n
    · subst e
      rw [Fz d (fun k hk => h k (by with_reducible exact Nat.lt_trans ‹_› ‹_›) (by exact Nat.ne_of_lt ‹_›))]; exact Int.zero_add _
    · rw [ih (by with_reducible exact (ZD ‹_› ‹_›)) (fun k hk hne => h k (by exact Nat.lt_succ_of_lt ‹_›) hne), h n (by exact Nat.lt_succ_self _) (by lia)]; exact Int.add_zero _
theorem cv_upd (f : Nat → Int) (g : Nat → Int) (d : Nat) (c : Int) (n : Nat) : cv (fun k => f k + if k = d then c else 0) g n = cv f g n + if d ≤ n then c * g (n - d) else 0 := by
  unfold cv
  rw [Ez (g := fun k => f k * g (n - k) + (if k = d then c else 0) * g (n - k)) _ (fun k _ => Int.add_mul _ _ _), sm_add]
  congr 1
  by_cases h : d ≤ n
  · rw [if_pos h, sm_one (d := d) (by exact Nat.lt_succ_of_le ‹_›) (fun k _ hne => by simp [hne])]
    simp
  · rw [if_neg h]
    exact Fz _ (fun k hk => by simp [show k ≠ d by lia])
theorem cv_scale (s t : Int) (f g : Nat → Int) (n : Nat) : cv (fun k => s * f k) (fun k => t * g k) n = s * t * cv f g n := by
  unfold cv
  rw [← sm_mul]
  apply Ez
  intro k _
  rw [Int.mul_assoc, Int.mul_assoc, Int.mul_left_comm (f k)]
theorem cv_hi {f g : Nat → Int} {d m n : Nat} (hf : ∀ k, d < k → f k = 0) (hg : ∀ k, m < k → g k = 0) (hn : d + m < n) : cv f g n = 0 := by
  refine Fz _ (fun k hk => ?_)
  by_cases h : d < k
  · simp [hf k h]
  · simp [hg (n - k) (by lia)]
theorem cv_top {f g : Nat → Int} {d m : Nat} (hf : ∀ k, d < k → f k = 0) (hg : ∀ k, m < k → g k = 0) : cv f g (d + m) = f d * g m := by
  unfold cv
  rw [sm_one (d := d) (by lia) (fun k hk hne => ?_)]
  · rw [show d + m - d = m by lia]
  · by_cases h : d < k
    · simp [hf k h]
    · simp [hg (d + m - k) (by lia)]
theorem Dw {a : List Int} {n : Nat} (h : a.length ≤ n) : co a n = 0 := by
  unfold co; rw [List.getD_eq_getElem?_getD, List.getElem?_eq_none h]; rfl
theorem Ge {a : List Int} {n : Nat} (h : n < a.length) : co a n = a[n] := by
  unfold co; rw [List.getD_eq_getElem?_getD, List.getElem?_eq_getElem h]; rfl
theorem co_set (a : List Int) (n : Nat) (v : Int) (k : Nat) (h : n < a.length) : co (a.set n v) k = if k = n then v else co a k := by
  unfold co
  rw [List.getD_eq_getElem?_getD, List.getElem?_set]
  by_cases e : n = k
  · subst e; simp [h]
  · have : ¬ k = n := fun q => e q.symm
    simp [e, this, List.getD_eq_getElem?_getD]
theorem co_rep (n k : Nat) : co (List.replicate n 0) k = 0 := by
  unfold co
  rw [List.getD_eq_getElem?_getD, List.getElem?_replicate]
  split <;> rfl
set_option tactic.hygienic true in
theorem tl_top (a : List Int) : ∀ n k, tl a n ≤ k → k < n → a[k]? = some 0
  | 0, k, _, h => by exact absurd ‹_› (Nat.not_lt_zero _)
  | n + 1, k, h, h2 => by
    simp only [tl] at h
    split at h
    · rename_i h0
      by_cases e : k = n
      · subst e; exact h0
      · exact tl_top a n k h (by with_reducible exact (ZD ‹_› ‹_›))
    · lia
theorem co_trim (a : List Int) (k : Nat) : co (trim a) k = co a k := by
  unfold trim co
  rw [List.getD_eq_getElem?_getD, List.getD_eq_getElem?_getD, List.getElem?_take]
  by_cases h : k < tl a a.length
  · rw [if_pos h]
  · rw [if_neg h]
    by_cases h2 : k < a.length
    · rw [tl_top a a.length k (by exact Nat.le_of_not_lt ‹_›) h2]; rfl
    · rw [List.getElem?_eq_none (by exact Nat.le_of_not_lt ‹_›)]
set_option tactic.hygienic true in
theorem tl_last (a : List Int) : ∀ n, 0 < tl a n → a[tl a n - 1]? ≠ some 0
  | 0, h => by simp [tl] at h
  | n + 1, h => by
    simp only [tl] at h ⊢
    split
    · rename_i h0
      rw [if_pos h0] at h
      exact tl_last a n h
    · rename_i h0; simpa using h0
theorem Fw (a : List Int) : Ax (trim a) := by
  intro x hx
  have hle := tl_le a a.length
  rw [List.getLast?_eq_getElem?] at hx
  have hlen : (trim a).length = tl a a.length := by unfold trim; rw [List.length_take]; exact Nat.min_eq_left ‹_›
  rw [hlen] at hx
  unfold trim at hx
  rw [List.getElem?_take] at hx
  split at hx
  · have h1 := tl_last a a.length (by lia)
    intro h0; subst h0; exact h1 hx
  · cases hx
theorem Ja {a : List Int} (ha : Ax a) (hne : a ≠ []) : co a (a.length - 1) ≠ 0 := by
  have hpos : 0 < a.length := List.length_pos_iff.mpr hne
  have h1 : a.getLast? = some (co a (a.length - 1)) := by
    rw [List.getLast?_eq_getElem?, List.getElem?_eq_getElem (by exact Nat.sub_lt ‹_› Nat.one_pos), Ge (by exact Nat.sub_lt ‹_› Nat.one_pos)]
  exact ha _ h1
theorem eq_of_co {a b : List Int} (ha : Ax a) (hb : Ax b) (h : ∀ n, co a n = co b n) : a = b := by
  have key : ∀ {a b : List Int}, Ax a → (∀ n, co a n = co b n) → a.length ≤ b.length := by
    intro a b ha h
    by_cases hne : a = []
    · subst hne; simp
    · apply Nat.le_of_not_lt
      intro hlt
      have := Ja ha hne
      rw [h, Dw (by exact Nat.le_sub_one_of_lt ‹_›)] at this
      exact this rfl
  have hl : a.length = b.length := Nat.le_antisymm (key ha h) (key hb fun n => (h n).symm)
  apply List.ext_getElem hl
  intro i h1 h2
  rw [← Ge h1, ← Ge h2, h]
end Mine
end
section
open PySem
namespace Mine
set_option tactic.hygienic false
set_option autoImplicit false
theorem sub_app (m : Int) (b : List Int) (s : Nat) : ∀ (ks : List Nat) (k : Nat) (r : List Int), Bi m b s (ks ++ [k]) r = match Bi m b s ks r with | some r' => Fx m b s r' k | none => none
  | [], k, r => by
    simp only [List.nil_append, Bi]
    cases Fx m b s r k <;> rfl
  | j :: ks, k, r => by
    simp only [List.cons_append, Bi]
    cases Fx m b s r j with
    | none => rfl
    | some r' => exact sub_app m b s ks k r'
theorem sub_all {m : Int} {b : List Int} {s : Nat} (hm : ∀ y ∈ b, Bd m y = true) (r : List Int) : ∀ N : Nat, N ≤ b.length → s + N ≤ r.length →
    ∃ r', Bi m b s (List.range N) r = some r' ∧ r'.length = r.length ∧ ∀ n, co r' n = co r n - (if s ≤ n ∧ n < s + N then m * co b (n - s) else 0)
  | 0, _, _ => ⟨r, rfl, rfl, fun n => by rw [if_neg (by lia)]; lia⟩
  | N + 1, h1, h2 => by
    obtain ⟨r', e, hl, hc⟩ := sub_all (s := s) hm r N (by exact Nat.le_of_succ_le ‹_›) (by lia)
    rw [List.range_succ, sub_app, e]
    simp only
    unfold Fx
    have hk : N + s < r'.length := by lia
    rw [List.getElem?_eq_getElem hk, List.getElem?_eq_getElem (show N < b.length by exact Nat.lt_of_succ_le ‹_›)]
    simp only
    rw [if_pos (hm _ (List.getElem_mem _))]
    refine ⟨_, rfl, by rw [List.length_set]; exact hl, fun n => ?_⟩
    rw [co_set _ _ _ _ hk]
    by_cases e2 : n = N + s
    · subst e2
      rw [if_pos rfl, if_pos (by lia), show N + s - s = N by lia, ← Ge hk, hc, if_neg (by lia), ← Ge (show N < b.length by exact Nat.lt_of_succ_le ‹_›)]
      lia
    · rw [if_neg e2, hc]
      by_cases h3 : s ≤ n ∧ n < s + N
      · rw [if_pos h3, if_pos (by lia)]
      · rw [if_neg h3, if_neg (by lia)]
theorem sub_step {m : Int} {b r : List Int} {s : Nat} (hm : ∀ y ∈ b, Bd m y = true) (h : s + b.length ≤ r.length) :
    ∃ r', Bi m b s (List.range b.length) r = some r' ∧ r'.length = r.length ∧ ∀ n, co r' n = co r n - (if s ≤ n then m * co b (n - s) else 0) := by
  obtain ⟨r', e, hl, hc⟩ := sub_all hm r b.length (Nat.le_refl _) h
  refine ⟨r', e, hl, fun n => ?_⟩
  rw [hc]
  by_cases h1 : s ≤ n
  · rw [if_pos h1]
    by_cases h2 : n < s + b.length
    · rw [if_pos ⟨h1, h2⟩]
    · rw [if_neg (by lia), Dw (a := b) (show b.length ≤ n - s by lia)]; simp
  · rw [if_neg h1, if_neg (by lia)]
theorem last_co {a : List Int} (hne : a ≠ []) : a.getLast? = some (co a (a.length - 1)) := by
  have hpos : 0 < a.length := List.length_pos_iff.mpr hne
  rw [List.getLast?_eq_getElem?, List.getElem?_eq_getElem (by exact Nat.sub_lt ‹_› Nat.one_pos), Ge (by exact Nat.sub_lt ‹_› Nat.one_pos)]
theorem len_le_co {a : List Int} (ha : Ax a) {n : Nat} (h : ∀ k, n ≤ k → co a k = 0) : a.length ≤ n := by
  by_cases hne : a = []
  · subst hne; simp
  · apply Nat.le_of_not_lt
    intro hlt
    exact Ja ha hne (h _ (by exact Nat.le_sub_one_of_lt ‹_›))
structure Inv (a b rest q : List Int) : Prop where
  sum : ∀ n, co a n = co rest n + cv (co q) (co b) n
  low : ∀ k, k + b.length ≤ rest.length → co q k = 0
  len : rest.length ≤ q.length + b.length - 1
  tr : Ax rest
theorem inv_step {a b rest q : List Int} {s t : Nat} (hs : rest.length = s + b.length) (ht : b.length = t + 1) {c : Int} (I : Inv a b rest q) (hcx : co rest (s + t) = c * co b t) (hm : ∀ y ∈ b, Bd c y = true) :
    ∃ r, Bi c b s (List.range b.length) rest = some r ∧ s < q.length ∧ (trim r).length < rest.length ∧ Inv a b (trim r) (q.set s c) := by
  obtain ⟨sum, low, len, tr⟩ := I
  obtain ⟨r, e, hrl, hrc⟩ := sub_step (r := rest) (s := s) hm (Nat.le_of_eq hs.symm)
  have hq : s < q.length := by rw [hs, ht] at len; lia
  have hlen : (trim r).length ≤ s + t := by
    refine len_le_co (Fw r) (fun k hk => ?_)
    rw [co_trim, hrc]
    by_cases h1 : k = s + t
    · subst h1
      rw [if_pos (Nat.le_add_right _ _), Nat.add_sub_cancel_left, hcx, Int.sub_self]
    · have h2 : rest.length ≤ k := by rw [hs, ht]; lia
      have h3 : s ≤ k := Nat.le_trans (Nat.le_add_right _ _) hk
      rw [Dw h2, if_pos h3, Dw (Nat.le_sub_of_add_le (by rw [Nat.add_comm, ← hs]; exact h2)), Int.mul_zero, Int.sub_zero]
  refine ⟨r, e, hq, by rw [hs, ht]; exact Nat.lt_succ_of_le hlen, ⟨fun n => ?_, fun k hk => ?_, ?_, Fw r⟩⟩
  · have hqc : ∀ k, co (q.set s c) k = co q k + if k = s then c else 0 := by
      intro k
      rw [co_set _ _ _ _ hq]
      by_cases h1 : k = s
      · subst h1
        rw [if_pos rfl, if_pos rfl, low _ (Nat.le_of_eq hs.symm), Int.zero_add]
      · rw [if_neg h1, if_neg h1, Int.add_zero]
    rw [show co (q.set s c) = fun k => co q k + if k = s then c else 0 from funext hqc, cv_upd, co_trim, hrc, sum n]
    generalize (if s ≤ n then c * co b (n - s) else 0) = X
    lia
  · have h1 : k < s := by rw [ht] at hk; lia
    rw [co_set _ _ _ _ hq, if_neg (Nat.ne_of_lt h1)]
    exact low k (by rw [hs]; exact Nat.add_le_add_right (Nat.le_of_lt h1) _)
  · rw [List.length_set]
    rw [hs] at len
    exact Nat.le_trans hlen (Nat.le_trans (by rw [ht]; lia) len)
end Mine
end
section
open PySem
namespace Mine
set_option tactic.hygienic false
set_option autoImplicit false
set_option tactic.hygienic true in
theorem bits_le {x : Int} (h : x.natAbs < 2 ^ 64) : Builtin.Int.intBits x ≤ 64 := by
  unfold Builtin.Int.intBits
  split
  · exact Nat.zero_le _
  · rename_i h0
    have hne : x.natAbs ≠ 0 := by
      intro e; apply h0; simp [Int.natAbs_eq_zero.mp e]
    have := (Nat.log2_lt hne).mpr h
    exact Nat.succ_le_of_lt ‹_›
theorem split_len {a b : List Int} (h : ¬ a.length < b.length) : ∃ s, a.length = s + b.length := ⟨_, (Nat.sub_add_cancel (Nat.le_of_not_lt h)).symm⟩
theorem pos_len {b : List Int} (h : b ≠ []) : ∃ t, b.length = t + 1 := ⟨b.length - 1, (Nat.sub_add_cancel (List.length_pos_iff.mpr h)).symm⟩
theorem last_at {b : List Int} {t : Nat} (h : b.length = t + 1) : b.getLast? = some (co b t) := by
  have hb : b ≠ [] := by intro e; rw [e] at h; cases h
  rw [last_co hb, h]; rfl
theorem co_top {b : List Int} (hb : Ax b) {t : Nat} (h : b.length = t + 1) : co b t ≠ 0 := hb _ (last_at h)
theorem ex_turn {b rest q : List Int} {n s t : Nat} (hb : Ax b) (hs : rest.length = s + b.length) (ht : b.length = t + 1) : Gp b (n + 1) rest q = if (co rest (s + t)).fmod (co b t) ≠ 0 then some none else
      if s < q.length then (match Bi ((co rest (s + t)).fdiv (co b t)) b s (List.range b.length) rest with
        | none => none
        | some r => if trim r = [] then some (some ([], q.set s ((co rest (s + t)).fdiv (co b t)))) else Gp b n (trim r) (q.set s ((co rest (s + t)).fdiv (co b t)))) else none := by
  rw [Gp]
  have h1 : ¬ rest.length < b.length := by rw [hs]; exact Nat.not_lt.mpr (Nat.le_add_left _ _)
  have h2 : rest.length = (s + t) + 1 := by rw [hs, ht]; rfl
  have h3 : rest.length - b.length = s := by rw [hs, Nat.add_sub_cancel]
  rw [if_neg h1, last_at h2, last_at ht, h3]
  simp only
  rw [if_neg (co_top hb ht)] <;> rfl
theorem ex_run {a b : List Int} (hb : Ax b) (hb0 : b ≠ []) (hm : ∀ c : Int, ∀ y ∈ b, Bd c y = true) : ∀ (n : Nat) (rest q : List Int), rest.length < n → Inv a b rest q →
    Gp b n rest q = some none ∨ ∃ r' q', Gp b n rest q = some (some (r', q')) ∧ Inv a b r' q'
  | 0, rest, q, h, _ => absurd h (Nat.not_lt_zero _)
  | n + 1, rest, q, h, I => by
    by_cases h1 : rest.length < b.length
    · rw [Gp, if_pos h1]; exact .inr ⟨rest, q, rfl, I⟩
    · obtain ⟨s, hs⟩ := split_len h1
      obtain ⟨t, ht⟩ := pos_len hb0
      rw [ex_turn hb hs ht]
      by_cases h2 : (co rest (s + t)).fmod (co b t) = 0
      · rw [if_neg (not_not_intro h2)]
        have hcx : co rest (s + t) = (co rest (s + t)).fdiv (co b t) * co b t := by
          have := Int.mul_fdiv_add_fmod (co rest (s + t)) (co b t)
          rw [h2, Int.add_zero, Int.mul_comm] at this
          exact this.symm
        obtain ⟨r, e, hq, hl, I'⟩ := inv_step hs ht I hcx (hm _)
        rw [if_pos hq, e]
        simp only
        by_cases h3 : trim r = []
        · rw [if_pos h3]; rw [h3] at I'; exact .inr ⟨_, _, rfl, I'⟩
        · rw [if_neg h3]
          exact ex_run hb hb0 hm n _ _ (Nat.lt_of_lt_of_le hl (Nat.le_of_lt_succ h)) I'
      · rw [if_pos h2]; exact .inl rfl
theorem inv_start {a b : List Int} (ha : Ax a) (hb0 : b ≠ []) : Inv a b a (List.replicate (a.length + 1 - b.length) 0) where
  sum := fun n => by
    have : cv (co (List.replicate (a.length + 1 - b.length) 0)) (co b) n = 0 := Fz _ (fun k _ => by rw [co_rep]; simp)
    rw [this]; exact (Int.add_zero _).symm
  low := fun k _ => co_rep _ _
  len := by
    have hbl : 0 < b.length := List.length_pos_iff.mpr hb0
    rw [List.length_replicate]; lia
  tr := ha
theorem ex_sound {a b : List Int} (ha : Ax a) (hb : Ax b) (hb0 : b ≠ []) (la : a.length < LIM) (lb : b.length ≤ LIM) (hm : ∀ c : Int, ∀ y ∈ b, Bd c y = true) :
    Je a b = some none ∨ ∃ q, Je a b = some (some q) ∧ Ax q ∧ ∀ n, co a n = cv (co q) (co b) n := by
  unfold Je
  rw [if_neg (by lia)]
  rcases ex_run hb hb0 hm (a.length + 1) a _ (by exact Nat.lt_succ_self _) (inv_start ha hb0) with e | ⟨r', q', e, I⟩
  · rw [e]; exact .inl rfl
  · rw [e]
    simp only
    by_cases h : r' = []
    · rw [if_pos h]
      refine .inr ⟨_, rfl, Fw _, fun n => ?_⟩
      rw [show co (trim q') = co q' from funext (co_trim q'), I.sum, h, Dw (by simp)]; exact Int.zero_add _
    · rw [if_neg h]; exact .inl rfl
theorem cv_sub (f g h : Nat → Int) (n : Nat) : cv f h n = cv (fun k => f k - g k) h n + cv g h n := by
  unfold cv
  rw [← sm_add]
  exact Ez _ (fun k _ => by simp only []; rw [← Int.add_mul, Int.sub_add_cancel])
theorem same_top {a b g rest q : List Int} {t : Nat} (hb : Ax b) (ht : b.length = t + 1) (hg : ∀ n, co a n = cv (co g) (co b) n) (I : Inv a b rest q) (N : Nat) (hN : ∀ k, N < k → co q k = co g k) : ∀ d k, k + d = N → rest.length < k + b.length → co q k = co g k := by
  have hrz : ∀ m, co rest m = cv (fun k => co g k - co q k) (co b) m := fun m => by
    have h1 := I.sum m
    rw [hg, cv_sub (co g) (co q)] at h1
    lia
  intro d
  induction d using Nat.strongRecOn with
  | ind d ih =>
    intro k hd hlt
    have hz : co rest (k + t) = 0 := Dw (by rw [ht] at hlt; exact Nat.le_of_lt_succ hlt)
    rw [hrz, cv_top] at hz
    · rcases Int.mul_eq_zero.mp hz with h0 | h0
      · exact (Int.sub_eq_zero.mp h0).symm
      · exact absurd h0 (co_top hb ht)
    · intro k' hk
      rw [Int.sub_eq_zero]
      by_cases hk2 : N < k'
      · exact (hN k' hk2).symm
      · exact (ih (N - k') (by lia) k' (by lia) (by lia)).symm
    · intro k' hk; exact Dw (by rw [ht]; exact hk)
theorem ex_full {a b g : List Int} (hb : Ax b) (hb0 : b ≠ []) (hm : ∀ c ∈ g, ∀ y ∈ b, Bd c y = true) (hm0 : ∀ y ∈ b, Bd 0 y = true) (hg : ∀ n, co a n = cv (co g) (co b) n) : ∀ (n : Nat) (rest q : List Int), rest.length < n → Inv a b rest q → (∀ k, rest.length < k + b.length → co q k = co g k) →
    ∃ q', Gp b n rest q = some (some ([], q')) ∧ ∀ k, co q' k = co g k
  | 0, rest, q, h, _, _ => absurd h (Nat.not_lt_zero _)
  | n + 1, rest, q, h, I, hi => by
    have hrest : ∀ m, co rest m = cv (fun k => co g k - co q k) (co b) m := fun m => by
      have h1 := I.sum m
      rw [hg, cv_sub (co g) (co q)] at h1
      lia
    by_cases h1 : rest.length < b.length
    · have hz : ∀ k, co q k = co g k := fun k => hi k (Nat.lt_of_lt_of_le h1 (Nat.le_add_left _ _))
      have : rest = [] := by
        apply eq_of_co I.tr (by intro x hx; cases hx)
        intro m
        rw [hrest, Dw (Nat.zero_le _)]
        exact Fz _ (fun k _ => by simp only [hz k, Int.sub_self, Int.zero_mul])
      subst this
      rw [Gp, if_pos h1]
      exact ⟨q, rfl, hz⟩
    · obtain ⟨s, hs⟩ := split_len h1
      obtain ⟨t, ht⟩ := pos_len hb0
      have htop : co rest (s + t) = co g s * co b t := by
        rw [hrest, cv_top]
        · simp only [I.low s (Nat.le_of_eq hs.symm), Int.sub_zero]
        · intro k hk; rw [hi k (by rw [hs]; exact Nat.add_lt_add_right hk _), Int.sub_self]
        · intro k hk; exact Dw (by rw [ht]; exact hk)
      have hmod : (co rest (s + t)).fmod (co b t) = 0 := by rw [htop]; exact Int.mul_fmod_left _ _
      have hdiv : (co rest (s + t)).fdiv (co b t) = co g s := by rw [htop]; exact Int.mul_fdiv_cancel _ (co_top hb ht)
      have hmm : ∀ y ∈ b, Bd (co g s) y = true := by
        intro y hy
        by_cases hl : s < g.length
        · exact hm _ (by rw [Ge hl]; exact List.getElem_mem _) y hy
        · rw [Dw (Nat.le_of_not_lt hl)]; exact hm0 y hy
      obtain ⟨r, e, hq, hl, I'⟩ := inv_step hs ht I htop hmm
      rw [ex_turn hb hs ht, if_neg (not_not_intro hmod), if_pos hq, hdiv, e]
      simp only
      have hi' : ∀ k, (trim r).length < k + b.length → co (q.set s (co g s)) k = co g k := by
        have hN : ∀ k, s < k → co (q.set s (co g s)) k = co g k := fun k hk => by
          rw [co_set _ _ _ _ hq, if_neg (Nat.ne_of_gt hk)]; exact hi k (by rw [hs]; exact Nat.add_lt_add_right hk _)
        intro k hk
        by_cases hk2 : s < k
        · exact hN k hk2
        · exact same_top hb ht hg I' s hN (s - k) k (Nat.add_sub_cancel' (Nat.le_of_not_lt hk2)) hk
      by_cases h3 : trim r = []
      · rw [if_pos h3]
        exact ⟨_, rfl, fun k => hi' k (by rw [h3, ht]; exact Nat.succ_pos _)⟩
      · rw [if_neg h3]
        exact ex_full hb hb0 hm hm0 hg n _ _ (Nat.lt_of_lt_of_le hl (Nat.le_of_lt_succ h)) I' hi'
theorem ex_complete {a b g : List Int} (ha : Ax a) (hb : Ax b) (hb0 : b ≠ []) (hgt : Ax g) (la : a.length < LIM) (lb : b.length ≤ LIM) (hm : ∀ c ∈ g, ∀ y ∈ b, Bd c y = true) (hm0 : ∀ y ∈ b, Bd 0 y = true) (hg : ∀ n, co a n = cv (co g) (co b) n) :
    Je a b = some (some g) := by
  have hbl : 0 < b.length := List.length_pos_iff.mpr hb0
  have hstart : ∀ k, a.length < k + b.length → co (List.replicate (a.length + 1 - b.length) 0) k = co g k := by
    intro k hk
    rw [co_rep]
    -- the quotient's degree
    by_cases hne : g = []
    · subst hne; rw [Dw (by simp)]
    · have hgl : 0 < g.length := List.length_pos_iff.mpr hne
      have ht := hg ((g.length - 1) + (b.length - 1))
      rw [cv_top (fun k hk => Dw (by lia)) (fun k hk => Dw (by lia))] at ht
      have hnz : co g (g.length - 1) * co b (b.length - 1) ≠ 0 := Int.mul_ne_zero (Ja hgt hne) (Ja hb hb0)
      have hal : (g.length - 1) + (b.length - 1) < a.length := by
        apply Nat.lt_of_not_le
        intro hle
        rw [Dw hle] at ht
        exact hnz ht.symm
      rw [Dw (by lia)]
  obtain ⟨q', e, hq⟩ := ex_full hb hb0 hm hm0 hg (a.length + 1) a _ (by exact Nat.lt_succ_self _) (inv_start ha hb0) hstart
  unfold Je
  rw [if_neg (by lia), e]
  simp only
  rw [if_pos trivial]
  congr 2
  exact eq_of_co (Fw _) hgt (fun n => by rw [co_trim, hq])
end Mine
end
section
open PySem
namespace Mine
set_option tactic.hygienic false
set_option autoImplicit false
theorem sm_ext {f : Nat → Int} {N : Nat} : ∀ M, N ≤ M → (∀ k, N ≤ k → f k = 0) → sm f M = sm f N
  | 0, h, _ => by rw [show N = 0 by exact Nat.eq_zero_of_le_zero ‹_›]
  | M + 1, h, hz => by
    by_cases e : N = M + 1
    · rw [e]
    · simp only [sm]; rw [sm_ext M (by with_reducible exact (ZC ‹_› ‹_›)) hz, hz M (by with_reducible exact (ZC ‹_› ‹_›))]; exact Int.add_zero _
theorem sm_shift (h : Nat → Int) (d : Nat) : ∀ N, sm (fun n => if d ≤ n then h (n - d) else 0) (d + N) = sm h N
  | 0 => Fz _ (fun k hk => if_neg (Nat.not_le_of_lt hk))
  | N + 1 => by
    rw [show d + (N + 1) = (d + N) + 1 by exact rfl]; simp only [sm]
    rw [sm_shift h d N, if_pos (by exact Nat.le_add_right _ _), show d + N - d = N by lia]
theorem add_app (x : Int) (b : List Int) (i : Nat) : ∀ (ks : List Nat) (k : Nat) (r : List Int), Gh x b i (ks ++ [k]) r = match Gh x b i ks r with | some r' => Jc x b i r' k | none => none
  | [], k, r => by
    simp only [List.nil_append, Gh]
    cases Jc x b i r k <;> rfl
  | j :: ks, k, r => by
    simp only [List.cons_append, Gh]
    cases Jc x b i r j with
    | none => rfl
    | some r' => exact add_app x b i ks k r'
theorem add_all {m : Int} {b : List Int} {s : Nat} (hm : ∀ y ∈ b, Bd m y = true) (r : List Int) : ∀ N : Nat, N ≤ b.length → s + N ≤ r.length →
    ∃ r', Gh m b s (List.range N) r = some r' ∧ r'.length = r.length ∧ ∀ n, co r' n = co r n + (if s ≤ n ∧ n < s + N then m * co b (n - s) else 0)
  | 0, _, _ => ⟨r, rfl, rfl, fun n => by rw [if_neg (by lia)]; exact (Int.add_zero _).symm⟩
  | N + 1, h1, h2 => by
    obtain ⟨r', e, hl, hc⟩ := add_all (s := s) hm r N (by exact Nat.le_of_succ_le ‹_›) (by lia)
    rw [List.range_succ, add_app, e]
    simp only
    unfold Jc
    have hk : s + N < r'.length := by lia
    rw [List.getElem?_eq_getElem hk, List.getElem?_eq_getElem (show N < b.length by exact Nat.lt_of_succ_le ‹_›)]
    simp only
    rw [if_pos (hm _ (List.getElem_mem _))]
    refine ⟨_, rfl, by rw [List.length_set]; exact hl, fun n => ?_⟩
    rw [co_set _ _ _ _ hk]
    by_cases e2 : n = s + N
    · subst e2
      rw [if_pos rfl, if_pos (by lia), show s + N - s = N by lia, ← Ge hk, hc, if_neg (by lia), ← Ge (show N < b.length by exact Nat.lt_of_succ_le ‹_›)]
      lia
    · rw [if_neg e2, hc]
      by_cases h3 : s ≤ n ∧ n < s + N
      · rw [if_pos h3, if_pos (by lia)]
      · rw [if_neg h3, if_neg (by lia)]
theorem mul_app (a b : List Int) : ∀ (ks : List Nat) (k : Nat) (r : List Int), Fg a b (ks ++ [k]) r = match Fg a b ks r with | some r' => Fg a b [k] r' | none => none
  | [], k, r => rfl
  | j :: ks, k, r => by
    simp only [List.cons_append]
    rw [Fg, Fg]
    cases a[j]? with
    | none => rfl
    | some x =>
      simp only
      cases Gh x b j (List.range b.length) r with
      | none => rfl
      | some r' => exact mul_app a b ks k r'
theorem mul_all {a b : List Int} (hm : ∀ x ∈ a, ∀ y ∈ b, Bd x y = true) (r : List Int) : ∀ N : Nat, N ≤ a.length → N + b.length ≤ r.length + 1 →
    ∃ r', Fg a b (List.range N) r = some r' ∧ r'.length = r.length ∧ ∀ n, co r' n = co r n + sm (fun k => if k ≤ n then co a k * co b (n - k) else 0) N
  | 0, _, _ => ⟨r, rfl, rfl, fun n => by simp only [sm]; exact (Int.add_zero _).symm⟩
  | N + 1, h1, h2 => by
    obtain ⟨r', e, hl, hc⟩ := mul_all hm r N (by exact Nat.le_of_succ_le ‹_›) (by lia)
    rw [List.range_succ, mul_app, e]
    simp only
    have hN : N < a.length := by exact Nat.lt_of_succ_le ‹_›
    unfold Fg
    rw [List.getElem?_eq_getElem hN]
    simp only
    obtain ⟨r2, e2, hl2, hc2⟩ := add_all (s := N) (hm _ (List.getElem_mem hN)) r' b.length (Nat.le_refl _) (by lia)
    rw [e2]
    simp only [Fg]
    refine ⟨r2, rfl, by lia, fun n => ?_⟩
    rw [hc2, hc]
    simp only [sm]
    rw [Ge hN]
    by_cases h3 : N ≤ n
    · by_cases h4 : n < N + b.length
      · rw [if_pos ⟨h3, h4⟩, if_pos h3]; lia
      · rw [if_neg (by lia), if_pos h3, Dw (a := b) (show b.length ≤ n - N by lia)]; lia
    · rw [if_neg (by lia), if_neg h3]; lia
theorem cv_by {a b : List Int} (n : Nat) : sm (fun k => if k ≤ n then co a k * co b (n - k) else 0) a.length = cv (co a) (co b) n := by
  unfold cv
  have h1 : sm (fun k => if k ≤ n then co a k * co b (n - k) else 0) (a.length + (n + 1)) = sm (fun k => if k ≤ n then co a k * co b (n - k) else 0) a.length :=
    sm_ext _ (by exact Nat.le_add_right _ _) (fun k hk => by rw [Dw hk]; simp)
  have h2 : sm (fun k => if k ≤ n then co a k * co b (n - k) else 0) (a.length + (n + 1)) = sm (fun k => if k ≤ n then co a k * co b (n - k) else 0) (n + 1) :=
    sm_ext _ (by exact Nat.le_add_left _ _) (fun k hk => if_neg (Nat.not_le_of_lt hk))
  rw [← h1, h2]
  exact Ez _ (fun k hk => by rw [if_pos (by exact Nat.le_of_lt_succ ‹_›)])
theorem cv_nil_l {b : Nat → Int} (n : Nat) : cv (co []) b n = 0 := Fz _ (fun k _ => by rw [Dw (by simp)]; simp)
theorem cv_nil_r {b : Nat → Int} (n : Nat) : cv b (co []) n = 0 := Fz _ (fun k _ => by rw [Dw (a := []) (by simp)]; simp)
theorem trimmed_nil : Ax [] := by intro x hx; cases hx
theorem Ic {a b : List Int} (hl : a.length + b.length ≤ LIM) (hm : ∀ x ∈ a, ∀ y ∈ b, Bd x y = true) : ∃ r, multiply a b = some r ∧ Ax r ∧ ∀ n, co r n = cv (co a) (co b) n := by
  unfold multiply
  by_cases h : a = [] ∨ b = []
  · rw [if_pos h]
    refine ⟨[], rfl, trimmed_nil, fun n => ?_⟩
    rw [Dw (by simp)]
    rcases h with h | h
    · rw [h, cv_nil_l]
    · rw [h, cv_nil_r]
  · rw [if_neg h, if_neg (by exact Nat.not_lt_of_le ‹_›)]
    have hb : 0 < b.length := List.length_pos_iff.mpr (fun e => h (.inr e))
    have ha : 0 < a.length := List.length_pos_iff.mpr (fun e => h (.inl e))
    obtain ⟨r, e, hl2, hc⟩ := mul_all hm (List.replicate (a.length + b.length - 1) 0) a.length (Nat.le_refl _) (by rw [List.length_replicate]; lia)
    rw [e]
    refine ⟨trim r, rfl, Fw _, fun n => ?_⟩
    rw [co_trim, hc, co_rep, cv_by]; exact Int.zero_add _
theorem sum_filter (p : Nat → Bool) (h : Nat → Int) : ∀ N, ((((List.range N).filter p).map h)).sum = sm (fun n => if p n = true then h n else 0) N
  | 0 => rfl
  | N + 1 => by
    rw [List.range_succ, List.filter_append, List.map_append, List.sum_append, sum_filter p h N]
    simp only [sm]
    congr 1
    by_cases e : p N = true
    · simp [e]
    · simp [e]
theorem co_conv {f g : List Int} (hf : f ≠ []) (hg : g ≠ []) (n : Nat) : co (conv f g) n = cv (co f) (co g) n := by
  have h1 : 0 < f.length := List.length_pos_iff.mpr hf
  have h2 : 0 < g.length := List.length_pos_iff.mpr hg
  by_cases h : n < f.length + g.length - 1
  · unfold conv co
    rw [List.getD_eq_getElem?_getD, List.getElem?_map, List.getElem?_range h]
    simp only [Option.map_some, Option.getD_some]
    unfold Kt
    rw [sumI_eq, sum_filter]
    show _ = cv (co f) (co g) n
    rw [← cv_by]
    apply Ez
    intro k hk
    by_cases e1 : k ≤ n
    · by_cases e2 : n - k < g.length
      · simp [e1, e2, co]
      · simp only [e1, e2, if_true, decide_true, decide_false, Bool.and_false]
        rw [Dw (a := g) (by exact Nat.le_of_not_lt ‹_›)]; simp
    · simp [e1]
  · rw [Dw (by unfold conv; simp; lia), cv_hi (d := f.length - 1) (m := g.length - 1) (fun k hk => Dw (by lia)) (fun k hk => Dw (by lia)) (by lia)]
noncomputable def ev (a : List Int) (x : Int) : Int := sm (fun n => co a n * x ^ n) a.length
theorem ev_ge {a : List Int} {x : Int} {N : Nat} (h : a.length ≤ N) : sm (fun n => co a n * x ^ n) N = ev a x :=
  sm_ext _ h (fun k hk => by rw [Dw hk]; simp)
theorem cv_ev (B : Nat → Int) (m : Nat) (x : Int) (hB : ∀ k, m ≤ k → B k = 0) : ∀ (d : Nat) (A : Nat → Int) (N : Nat), (∀ k, d ≤ k → A k = 0) → d + m ≤ N →
    sm (fun n => cv A B n * x ^ n) N = sm (fun n => A n * x ^ n) d * sm (fun n => B n * x ^ n) m
  | 0, A, N, hA, hN => by
    rw [Fz _ (fun k _ => ?_)]
    · simp [sm]
    · have : cv A B k = 0 := Fz _ (fun j _ => by rw [hA j (by exact Nat.zero_le _)]; simp)
      rw [this]; simp
  | d + 1, A, N, hA, hN => by
    have ih := cv_ev B m x hB d (fun k => if k < d then A k else 0) N (fun k hk => by rw [if_neg (by exact Nat.not_lt_of_le ‹_›)]) (by lia)
    have hAe : A = fun k => (if k < d then A k else 0) + if k = d then A d else 0 := by
      funext k
      by_cases e : k < d
      · rw [if_pos e, if_neg (by exact Nat.ne_of_lt ‹_›)]; exact (Int.add_zero _).symm
      · by_cases e2 : k = d
        · subst e2; rw [if_neg e, if_pos rfl]; lia
        · rw [if_neg e, if_neg e2, hA k (by lia)]; rfl
    have hs : sm (fun n => cv A B n * x ^ n) N = sm (fun n => cv (fun k => if k < d then A k else 0) B n * x ^ n) N + sm (fun n => if d ≤ n then A d * x ^ d * (B (n - d) * x ^ (n - d)) else 0) N := by
      rw [← sm_add]
      apply Ez
      intro n _
      conv => lhs; rw [hAe]
      rw [cv_upd, Int.add_mul]
      congr 1
      by_cases e : d ≤ n
      · rw [if_pos e, if_pos e]
        rw [show x ^ n = x ^ d * x ^ (n - d) by rw [← Int.pow_add]; congr 1; lia]
        simp only [Int.mul_assoc, Int.mul_left_comm]
      · rw [if_neg e, if_neg e]; simp
    rw [hs, ih]
    have h3 : sm (fun n => if d ≤ n then A d * x ^ d * (B (n - d) * x ^ (n - d)) else 0) N = A d * x ^ d * sm (fun n => B n * x ^ n) m := by
      have := sm_shift (fun n => A d * x ^ d * (B n * x ^ n)) d (N - d)
      rw [show d + (N - d) = N by lia] at this
      rw [this, sm_mul]
      congr 1
      exact sm_ext _ (by lia) (fun k hk => by rw [hB k hk]; simp)
    rw [h3]
    simp only [sm]
    rw [Int.add_mul]
    congr 2
    exact Ez _ (fun k hk => by rw [if_pos hk])
theorem ev_mul {a b c : List Int} (h : ∀ n, co c n = cv (co a) (co b) n) (x : Int) : ev c x = ev a x * ev b x := by
  have := cv_ev (co b) b.length x (fun k hk => Dw hk) a.length (co a) (a.length + b.length + c.length) (fun k hk => Dw hk) (by exact Nat.le_add_right _ _)
  rw [← ev_ge (N := a.length + b.length + c.length) (by exact Nat.le_add_left _ _), Ez (g := fun n => cv (co a) (co b) n * x ^ n) _ (fun k _ => by rw [h]), this]
  rfl
theorem ev_scale (k : Int) (a : List Int) (x : Int) : ev (a.map (k * ·)) x = k * ev a x := by
  unfold ev
  rw [List.length_map, ← sm_mul]
  refine Ez _ (fun n hn => ?_)
  rw [Ge (by simpa using hn), Ge hn, List.getElem_map, Int.mul_assoc]
theorem Fn (k : Int) (a : List Int) (n : Nat) : co (a.map (k * ·)) n = k * co a n := by
  by_cases hn : n < a.length
  · rw [Ge (by simpa using hn), Ge hn, List.getElem_map]
  · rw [Dw (by simp; exact Nat.le_of_not_lt ‹_›), Dw (by exact Nat.le_of_not_lt ‹_›)]; simp
theorem Fk {k : Int} (hk : k ≠ 0) {a : List Int} (ha : Ax a) : Ax (a.map (k * ·)) := by
  intro x hx
  rw [List.getLast?_map] at hx
  cases h : a.getLast? with
  | none => rw [h] at hx; cases hx
  | some y => rw [h] at hx; cases hx; exact Int.mul_ne_zero hk (ha _ h)
end Mine
end
section
open PySem
namespace Mine
set_option tactic.hygienic false
set_option autoImplicit false
noncomputable def sm64 (z : List Int) : Bool := z.all fun y => decide (y.natAbs < 2 ^ 64)
theorem Ia {z : List Int} (h : sm64 z = true) (c : Int) : ∀ y ∈ z, Bd c y = true := fun y hy => mulOk_right (bits_le (by simpa using List.all_eq_true.mp h y hy))
theorem sm64_ok' {z : List Int} (h : sm64 z = true) (c : Int) : ∀ y ∈ z, Bd y c = true := fun y hy => Ix (bits_le (by simpa using List.all_eq_true.mp h y hy))
theorem conv_ne {f g : List Int} (hf : f ≠ []) (hg : g ≠ []) : conv f g ≠ [] := by
  have h1 : 0 < f.length := List.length_pos_iff.mpr hf
  have h2 : 0 < g.length := List.length_pos_iff.mpr hg
  intro e
  have := congrArg List.length e
  unfold conv at this
  simp at this
  lia
theorem conv_scale (k : Int) {f g : List Int} (hf : f ≠ []) (hg : g ≠ []) : conv (f.map (k * ·)) g = (conv f g).map (k * ·) := by
  have hl : (conv (f.map (k * ·)) g).length = ((conv f g).map (k * ·)).length := by unfold conv; simp
  apply List.ext_getElem hl
  intro n h1 h2
  have e1 := co_conv (f := f.map (k * ·)) (g := g) (by simpa using hf) hg n
  have e2 := Fn k (conv f g) n
  rw [co_conv hf hg] at e2
  rw [← Ge h1, ← Ge h2, e1, e2]
  rw [show co (f.map (k * ·)) = fun n => k * co f n from funext (Fn k f)]
  unfold cv
  rw [← sm_mul]
  exact Ez _ (fun j _ => by rw [Int.mul_assoc])
set_option tactic.hygienic true in
theorem times_scale (k : Int) {f g r : List Int} (hg : sm64 g = true) (h : Hz f g = some r) : Hz (f.map (k * ·)) g = some (r.map (k * ·)) := by
  unfold Hz at h ⊢
  split at h
  · cases h
  · rename_i hc
    cases h
    have hf0 : f ≠ [] := fun e => hc (.inl e)
    have hg0 : g ≠ [] := fun e => hc (.inr (.inl e))
    rw [if_neg, conv_scale k hf0 hg0]
    rintro (h1 | h1 | h1 | h1)
    · exact hf0 (by simpa using h1)
    · exact hg0 h1
    · exact hc (.inr (.inr (.inl (by simpa using h1))))
    · have : ((f.map (k * ·)).all fun x => g.all (Bd x)) = true := List.all_eq_true.mpr fun x _ => List.all_eq_true.mpr (Ia hg x)
      rw [this] at h1; cases h1
theorem powT_scale (k : Int) {part : List Int} (hp : sm64 part = true) : ∀ (n : Nat) (a r : List Int), powT part n a = some r → powT part n (a.map (k * ·)) = some (r.map (k * ·))
  | 0, a, r, h => by simp only [powT, Option.some.injEq] at h ⊢; rw [h]
  | n + 1, a, r, h => by
    simp only [powT] at h ⊢
    cases q : Hz a part with
    | none => rw [q] at h; cases h
    | some a' =>
      rw [q] at h
      rw [times_scale k hp q]
      exact powT_scale k hp n a' r h
theorem Jb (k : Int) {ps : List Pr} : ∀ (os : List Int) (a : List Int) (want : List (List Int × Int)) (r : List Int) (w : List (List Int × Int)), (∀ o ∈ os, ∀ part, Jn ps o [1] = some part → sm64 part = true) →
    Hl ps os a want = some (r, w) → Hl ps os (a.map (k * ·)) want = some (r.map (k * ·), w)
  | [], a, want, r, w, _, h => by simp only [Hl, Option.some.injEq, Prod.mk.injEq] at h ⊢; exact ⟨by rw [h.1], h.2⟩
  | o :: os, a, want, r, w, hs, h => by
    have hs' : ∀ o ∈ os, ∀ part, Jn ps o [1] = some part → sm64 part = true := fun o ho => hs o (List.mem_cons_of_mem _ ho)
    unfold Hl at h ⊢
    cases q : Jn ps o [1] with
    | none => rw [q] at h; cases h
    | some part =>
      rw [q] at h
      simp only at h ⊢
      by_cases h1 : 1 < part.length
      · rw [if_pos h1] at h ⊢
        by_cases h2 : LIM ≤ want.length ∨ ¬ (0 ≤ o ∧ o ≤ 100)
        · rw [if_pos h2] at h; cases h
        · rw [if_neg h2] at h ⊢
          cases q2 : powT part o.toNat a with
          | none => rw [q2] at h; cases h
          | some a' =>
            rw [q2] at h
            rw [powT_scale k (hs o (List.mem_cons_self ..) part q) _ _ _ q2]
            exact Jb k os a' _ r w hs' h
      · rw [if_neg h1] at h ⊢
        exact Jb k os a want r w hs' h
theorem multiply_scale {k : Int} (hk : k ≠ 0) {b f r : List Int} (hf : sm64 f = true) (h : multiply b f = some r) : multiply (b.map (k * ·)) f = some (r.map (k * ·)) := by
  by_cases h0 : b = [] ∨ f = []
  · unfold multiply at h ⊢
    rw [if_pos h0] at h
    cases h
    rw [if_pos]; · rfl
    rcases h0 with h0 | h0
    · left; simp [h0]
    · right; exact h0
  · have hl : b.length + f.length ≤ LIM := by
      unfold multiply at h
      rw [if_neg h0] at h
      split at h
      · cases h
      · exact Nat.le_of_not_lt ‹_›
    obtain ⟨r1, e1, t1, c1⟩ := Ic (a := b) (b := f) hl (fun x _ => Ia hf x)
    obtain ⟨r2, e2, t2, c2⟩ := Ic (a := b.map (k * ·)) (b := f) (by simpa using hl) (fun x _ => Ia hf x)
    rw [h] at e1
    cases e1
    rw [e2]
    congr 1
    refine eq_of_co t2 (Fk hk t1) (fun n => ?_)
    rw [c2, Fn, c1, show co (b.map (k * ·)) = fun n => k * co b n from funext (Fn k b)]
    unfold cv
    rw [← sm_mul]
    exact Ez _ (fun j _ => by rw [Int.mul_assoc])
theorem powMul_scale {k : Int} (hk : k ≠ 0) {f : List Int} (hf : sm64 f = true) : ∀ (n : Nat) (b r : List Int), Ig f n b = some r → Ig f n (b.map (k * ·)) = some (r.map (k * ·))
  | 0, b, r, h => by simp only [Ig, Option.some.injEq] at h ⊢; rw [h]
  | n + 1, b, r, h => by
    simp only [Ig] at h ⊢
    cases q : multiply b f with
    | none => rw [q] at h; cases h
    | some b' =>
      rw [q] at h
      rw [multiply_scale hk hf q]
      exact powMul_scale hk hf n b' r h
theorem backL_scale {k : Int} (hk : k ≠ 0) : ∀ (l : List (List Int × Int)) (b r : List Int), (∀ p ∈ l, sm64 p.1 = true) → Jv l b = some r → Jv l (b.map (k * ·)) = some (r.map (k * ·))
  | [], b, r, _, h => by simp only [Jv, Option.some.injEq] at h ⊢; rw [h]
  | (f, o) :: l, b, r, hs, h => by
    unfold Jv at h ⊢
    by_cases h1 : 0 ≤ o ∧ o ≤ 100
    · rw [if_pos h1] at h ⊢
      cases q : Ig f o.toNat b with
      | none => rw [q] at h; cases h
      | some b' =>
        rw [q] at h
        rw [powMul_scale hk (hs (f, o) (List.mem_cons_self ..)) _ _ _ q]
        exact backL_scale hk l b' r (fun p hp => hs p (List.mem_cons_of_mem _ hp)) h
    · rw [if_neg h1] at h; cases h
theorem Jr (k : Int) : ∀ (z : List Int) (g : Int), Fi (z.map (k * ·)) (k.natAbs * g) = k.natAbs * Fi z g
  | [], g => rfl
  | c :: z, g => by
    have ih := Jr k z (Int.gcd g c : Int)
    unfold Fi at ih ⊢
    simp only [List.map_cons, List.foldl_cons]
    rw [← ih]
    congr 1
    show ((Int.gcd (k.natAbs * g) (k * c) : Nat) : Int) = k.natAbs * (Int.gcd g c : Nat)
    unfold Int.gcd
    rw [Int.natAbs_mul, Int.natAbs_mul, Int.natAbs_natCast, Nat.gcd_mul_left]
    simp
theorem gfold_dvd {t : Int} : ∀ (z : List Int) (g : Int), t ∣ g → (∀ c ∈ z, t ∣ c) → t ∣ Fi z g
  | [], g, hg, _ => hg
  | c :: z, g, hg, h => by
    unfold Fi
    simp only [List.foldl_cons]
    exact gfold_dvd z _ (Int.dvd_coe_gcd hg (h c (List.mem_cons_self ..))) (fun c hc => h c (List.mem_cons_of_mem _ hc))
noncomputable def prim (f : List Int) : Bool := Fi f 0 == 1 && (match f.getLast? with | some l => decide (l > 0) | none => false)
theorem Gc {f : List Int} (h : prim f = true) : f ≠ [] := by
  intro e; subst e; simp [prim] at h
theorem Iv {f : List Int} (h : prim f = true) : Ax f := by
  intro x hx e
  unfold prim at h
  rw [hx] at h
  subst e
  simp at h
theorem Fd {k : Int} (hk : k ≠ 0) {f : List Int} (h : prim f = true) : content (f.map (k * ·)) = k := by
  unfold prim at h
  cases hl : f.getLast? with
  | none => rw [hl] at h; simp at h
  | some l =>
    rw [hl] at h
    simp only [Bool.and_eq_true, beq_iff_eq, decide_eq_true_eq] at h
    unfold content
    rw [List.getLast?_map, hl]
    simp only [Option.map_some]
    have hg := Jr k f 0
    rw [Int.mul_zero, h.1] at hg
    rw [hg]
    by_cases hp : 0 < k
    · rw [if_pos (Int.mul_pos hp h.2)]; lia
    · rw [if_neg]
      · lia
      · intro h3
        have := Int.mul_neg_of_neg_of_pos (show k < 0 by lia) h.2
        lia
theorem Ec {k : Int} (hk : k ≠ 0) {f : List Int} (h : prim f = true) (hl : f.length ≤ LIM) : primitive (f.map (k * ·)) = some f := by
  unfold primitive
  rw [if_neg (by simpa using Gc h), Fd hk h, if_neg (by rw [List.length_map]; lia)]
  congr 1
  rw [List.map_map]
  conv => rhs; rw [← List.map_id f]
  refine List.map_congr_left (fun c _ => ?_)
  show (k * c).fdiv k = c
  rw [Int.mul_comm]
  exact Int.mul_fdiv_cancel _ hk
theorem map_one (f : List Int) : f.map ((1 : Int) * ·) = f := by
  conv => rhs; rw [← List.map_id f]
  exact List.map_congr_left (fun c _ => by simp)
theorem dvd_scale {k t : Int} {f : List Int} (h : prim f = true) (hd : ∀ c ∈ f, t ∣ k * c) : t ∣ k := by
  have hg := Jr k f 0
  have h1 : Fi f 0 = 1 := by
    unfold prim at h
    simp only [Bool.and_eq_true, beq_iff_eq] at h
    exact h.1
  rw [Int.mul_zero, h1, Int.mul_one] at hg
  have := gfold_dvd (t := t) (f.map (k * ·)) 0 (Int.dvd_zero _) (by
    intro c hc
    obtain ⟨y, hy, e⟩ := List.mem_map.mp hc
    rw [← e]; exact hd y hy)
  rw [hg] at this
  exact Int.dvd_natAbs.mp this
end Mine
end
section
open PySem
namespace Mine
set_option tactic.hygienic false
set_option autoImplicit false
set_option Elab.async false
noncomputable def PP : List (List Int) := [[.ofNat 1], [.ofNat 0, .ofNat 1], [.ofNat 1, .ofNat 1], [.negSucc 0, .ofNat 1], [.ofNat 1, .ofNat 2], [.negSucc 1, .ofNat 3], [.negSucc 0, .ofNat 2], [.ofNat 1, .ofNat 0, .ofNat 1], [.negSucc 1, .ofNat 0, .ofNat 1], [.ofNat 3, .negSucc 1, .ofNat 2], []]
noncomputable def pP (l : Nat) : List Int := PP.getD l []
noncomputable def powC (v : List Int) : Nat → List Int → List Int
  | 0, u => u
  | n + 1, u => powC v n (conv u v)
noncomputable def prs (i j e : Nat) : List Pr := pairsOf (pP i) (pP j) (e : Int) (i == j)
noncomputable def evH (a : List Int) (x : Int) : Int := a.foldr (fun c t => c + x * t) 0
noncomputable def chkA (i j e : Nat) (f : List Int) (want : List (List Int × Int)) : Bool :=
  prim f && decide (f.length ≤ 20) && f.all (fun c => decide (c.natAbs ≤ 275)) && want.all (fun p => sm64 p.1) &&
  ([1, 2, 3, 4].all fun o => match Jn (prs i j e) o [1] with | some part => sm64 part | none => true)
noncomputable def chkB (i j e : Nat) (f : List Int) (want : List (List Int × Int)) : Bool := Hl (prs i j e) [1, 2, 3, 4] [1] [] == some (f, want)
noncomputable def chkF (i j e : Nat) (f : List Int) : Bool := powC (pP j) e (pP i) == f
noncomputable def chkC (f : List Int) (want : List (List Int × Int)) : Bool := Jv want [1] == some f
noncomputable def chkP (f : List Int) (want : List (List Int × Int)) : Bool := sfParts f == some want
noncomputable def chkG (i j l : Nat) (f p : List Int) : Bool := match Hq (p.length + 2) f p with
  | some z => z != [] && primitive z == some (if l = i ∨ l = j then p else [1])
  | none => false
noncomputable def chkN (i j l : Nat) (f p : List Int) : Bool := decide (l = 0) || decide (l = i) || decide (l = j) || decide ((12 * evH f 1000) % evH p 1000 ≠ 0)
noncomputable def chkQ (i j l : Nat) (f p : List Int) : Bool := (decide (l ≠ i) && decide (l ≠ j)) || (match Je f p with | some (some _) => true | _ => false)
noncomputable def chkR (i : Nat) (r : Nat × Nat × List Int × List (List Int × Int)) : Bool :=
  chkA i r.1 r.2.1 r.2.2.1 r.2.2.2 && chkB i r.1 r.2.1 r.2.2.1 r.2.2.2 && chkF i r.1 r.2.1 r.2.2.1 && chkC r.2.2.1 r.2.2.2
noncomputable def chkH (rs : List (Nat × Nat × List Int × List (List Int × Int))) : Bool := (List.range 7).all fun j => [1, 2, 3].all fun e => rs.any fun r => r.1 == j && r.2.1 == e
noncomputable def rows0 : List (Nat × Nat × List Int × List (List Int × Int)) := [
  (0, 1, [.ofNat 1], []),
  (0, 2, [.ofNat 1], []),
  (0, 3, [.ofNat 1], []),
  (1, 1, [.ofNat 0, .ofNat 1], [([.ofNat 0, .ofNat 1], .ofNat 1)]),
  (1, 2, [.ofNat 0, .ofNat 0, .ofNat 1], [([.ofNat 0, .ofNat 1], .ofNat 2)]),
  (1, 3, [.ofNat 0, .ofNat 0, .ofNat 0, .ofNat 1], [([.ofNat 0, .ofNat 1], .ofNat 3)]),
  (2, 1, [.ofNat 1, .ofNat 1], [([.ofNat 1, .ofNat 1], .ofNat 1)]),
  (2, 2, [.ofNat 1, .ofNat 2, .ofNat 1], [([.ofNat 1, .ofNat 1], .ofNat 2)]),
  (2, 3, [.ofNat 1, .ofNat 3, .ofNat 3, .ofNat 1], [([.ofNat 1, .ofNat 1], .ofNat 3)]),
  (3, 1, [.negSucc 0, .ofNat 1], [([.negSucc 0, .ofNat 1], .ofNat 1)]),
  (3, 2, [.ofNat 1, .negSucc 1, .ofNat 1], [([.negSucc 0, .ofNat 1], .ofNat 2)]),
  (3, 3, [.negSucc 0, .ofNat 3, .negSucc 2, .ofNat 1], [([.negSucc 0, .ofNat 1], .ofNat 3)]),
  (4, 1, [.ofNat 1, .ofNat 2], [([.ofNat 1, .ofNat 2], .ofNat 1)]),
  (4, 2, [.ofNat 1, .ofNat 4, .ofNat 4], [([.ofNat 1, .ofNat 2], .ofNat 2)]),
  (4, 3, [.ofNat 1, .ofNat 6, .ofNat 12, .ofNat 8], [([.ofNat 1, .ofNat 2], .ofNat 3)]),
  (5, 1, [.negSucc 1, .ofNat 3], [([.negSucc 1, .ofNat 3], .ofNat 1)]),
  (5, 2, [.ofNat 4, .negSucc 11, .ofNat 9], [([.negSucc 1, .ofNat 3], .ofNat 2)]),
  (5, 3, [.negSucc 7, .ofNat 36, .negSucc 53, .ofNat 27], [([.negSucc 1, .ofNat 3], .ofNat 3)]),
  (6, 1, [.negSucc 0, .ofNat 2], [([.negSucc 0, .ofNat 2], .ofNat 1)]),
  (6, 2, [.ofNat 1, .negSucc 3, .ofNat 4], [([.negSucc 0, .ofNat 2], .ofNat 2)]),
  (6, 3, [.negSucc 0, .ofNat 6, .negSucc 11, .ofNat 8], [([.negSucc 0, .ofNat 2], .ofNat 3)])]
noncomputable def rows1 : List (Nat × Nat × List Int × List (List Int × Int)) := [
  (0, 1, [.ofNat 0, .ofNat 1], [([.ofNat 0, .ofNat 1], .ofNat 1)]),
  (0, 2, [.ofNat 0, .ofNat 1], [([.ofNat 0, .ofNat 1], .ofNat 1)]),
  (0, 3, [.ofNat 0, .ofNat 1], [([.ofNat 0, .ofNat 1], .ofNat 1)]),
  (1, 1, [.ofNat 0, .ofNat 0, .ofNat 1], [([.ofNat 0, .ofNat 1], .ofNat 2)]),
  (1, 2, [.ofNat 0, .ofNat 0, .ofNat 0, .ofNat 1], [([.ofNat 0, .ofNat 1], .ofNat 3)]),
  (1, 3, [.ofNat 0, .ofNat 0, .ofNat 0, .ofNat 0, .ofNat 1], [([.ofNat 0, .ofNat 1], .ofNat 4)]),
  (2, 1, [.ofNat 0, .ofNat 1, .ofNat 1], [([.ofNat 0, .ofNat 1, .ofNat 1], .ofNat 1)]),
  (2, 2, [.ofNat 0, .ofNat 1, .ofNat 2, .ofNat 1], [([.ofNat 0, .ofNat 1], .ofNat 1), ([.ofNat 1, .ofNat 1], .ofNat 2)]),
  (2, 3, [.ofNat 0, .ofNat 1, .ofNat 3, .ofNat 3, .ofNat 1], [([.ofNat 0, .ofNat 1], .ofNat 1), ([.ofNat 1, .ofNat 1], .ofNat 3)]),
  (3, 1, [.ofNat 0, .negSucc 0, .ofNat 1], [([.ofNat 0, .negSucc 0, .ofNat 1], .ofNat 1)]),
  (3, 2, [.ofNat 0, .ofNat 1, .negSucc 1, .ofNat 1], [([.ofNat 0, .ofNat 1], .ofNat 1), ([.negSucc 0, .ofNat 1], .ofNat 2)]),
  (3, 3, [.ofNat 0, .negSucc 0, .ofNat 3, .negSucc 2, .ofNat 1], [([.ofNat 0, .ofNat 1], .ofNat 1), ([.negSucc 0, .ofNat 1], .ofNat 3)]),
  (4, 1, [.ofNat 0, .ofNat 1, .ofNat 2], [([.ofNat 0, .ofNat 1, .ofNat 2], .ofNat 1)]),
  (4, 2, [.ofNat 0, .ofNat 1, .ofNat 4, .ofNat 4], [([.ofNat 0, .ofNat 1], .ofNat 1), ([.ofNat 1, .ofNat 2], .ofNat 2)]),
  (4, 3, [.ofNat 0, .ofNat 1, .ofNat 6, .ofNat 12, .ofNat 8], [([.ofNat 0, .ofNat 1], .ofNat 1), ([.ofNat 1, .ofNat 2], .ofNat 3)]),
  (5, 1, [.ofNat 0, .negSucc 1, .ofNat 3], [([.ofNat 0, .negSucc 1, .ofNat 3], .ofNat 1)]),
  (5, 2, [.ofNat 0, .ofNat 4, .negSucc 11, .ofNat 9], [([.ofNat 0, .ofNat 1], .ofNat 1), ([.negSucc 1, .ofNat 3], .ofNat 2)]),
  (5, 3, [.ofNat 0, .negSucc 7, .ofNat 36, .negSucc 53, .ofNat 27], [([.ofNat 0, .ofNat 1], .ofNat 1), ([.negSucc 1, .ofNat 3], .ofNat 3)]),
  (6, 1, [.ofNat 0, .negSucc 0, .ofNat 2], [([.ofNat 0, .negSucc 0, .ofNat 2], .ofNat 1)]),
  (6, 2, [.ofNat 0, .ofNat 1, .negSucc 3, .ofNat 4], [([.ofNat 0, .ofNat 1], .ofNat 1), ([.negSucc 0, .ofNat 2], .ofNat 2)]),
  (6, 3, [.ofNat 0, .negSucc 0, .ofNat 6, .negSucc 11, .ofNat 8], [([.ofNat 0, .ofNat 1], .ofNat 1), ([.negSucc 0, .ofNat 2], .ofNat 3)])]
noncomputable def rows2 : List (Nat × Nat × List Int × List (List Int × Int)) := [
  (0, 1, [.ofNat 1, .ofNat 1], [([.ofNat 1, .ofNat 1], .ofNat 1)]),
  (0, 2, [.ofNat 1, .ofNat 1], [([.ofNat 1, .ofNat 1], .ofNat 1)]),
  (0, 3, [.ofNat 1, .ofNat 1], [([.ofNat 1, .ofNat 1], .ofNat 1)]),
  (1, 1, [.ofNat 0, .ofNat 1, .ofNat 1], [([.ofNat 0, .ofNat 1, .ofNat 1], .ofNat 1)]),
  (1, 2, [.ofNat 0, .ofNat 0, .ofNat 1, .ofNat 1], [([.ofNat 1, .ofNat 1], .ofNat 1), ([.ofNat 0, .ofNat 1], .ofNat 2)]),
  (1, 3, [.ofNat 0, .ofNat 0, .ofNat 0, .ofNat 1, .ofNat 1], [([.ofNat 1, .ofNat 1], .ofNat 1), ([.ofNat 0, .ofNat 1], .ofNat 3)]),
  (2, 1, [.ofNat 1, .ofNat 2, .ofNat 1], [([.ofNat 1, .ofNat 1], .ofNat 2)]),
  (2, 2, [.ofNat 1, .ofNat 3, .ofNat 3, .ofNat 1], [([.ofNat 1, .ofNat 1], .ofNat 3)]),
  (2, 3, [.ofNat 1, .ofNat 4, .ofNat 6, .ofNat 4, .ofNat 1], [([.ofNat 1, .ofNat 1], .ofNat 4)]),
  (3, 1, [.negSucc 0, .ofNat 0, .ofNat 1], [([.negSucc 0, .ofNat 0, .ofNat 1], .ofNat 1)]),
  (3, 2, [.ofNat 1, .negSucc 0, .negSucc 0, .ofNat 1], [([.ofNat 1, .ofNat 1], .ofNat 1), ([.negSucc 0, .ofNat 1], .ofNat 2)]),
  (3, 3, [.negSucc 0, .ofNat 2, .ofNat 0, .negSucc 1, .ofNat 1], [([.ofNat 1, .ofNat 1], .ofNat 1), ([.negSucc 0, .ofNat 1], .ofNat 3)]),
  (4, 1, [.ofNat 1, .ofNat 3, .ofNat 2], [([.ofNat 1, .ofNat 3, .ofNat 2], .ofNat 1)]),
  (4, 2, [.ofNat 1, .ofNat 5, .ofNat 8, .ofNat 4], [([.ofNat 1, .ofNat 1], .ofNat 1), ([.ofNat 1, .ofNat 2], .ofNat 2)]),
  (4, 3, [.ofNat 1, .ofNat 7, .ofNat 18, .ofNat 20, .ofNat 8], [([.ofNat 1, .ofNat 1], .ofNat 1), ([.ofNat 1, .ofNat 2], .ofNat 3)]),
  (5, 1, [.negSucc 1, .ofNat 1, .ofNat 3], [([.negSucc 1, .ofNat 1, .ofNat 3], .ofNat 1)]),
  (5, 2, [.ofNat 4, .negSucc 7, .negSucc 2, .ofNat 9], [([.ofNat 1, .ofNat 1], .ofNat 1), ([.negSucc 1, .ofNat 3], .ofNat 2)]),
  (5, 3, [.negSucc 7, .ofNat 28, .negSucc 17, .negSucc 26, .ofNat 27], [([.ofNat 1, .ofNat 1], .ofNat 1), ([.negSucc 1, .ofNat 3], .ofNat 3)]),
  (6, 1, [.negSucc 0, .ofNat 1, .ofNat 2], [([.negSucc 0, .ofNat 1, .ofNat 2], .ofNat 1)]),
  (6, 2, [.ofNat 1, .negSucc 2, .ofNat 0, .ofNat 4], [([.ofNat 1, .ofNat 1], .ofNat 1), ([.negSucc 0, .ofNat 2], .ofNat 2)]),
  (6, 3, [.negSucc 0, .ofNat 5, .negSucc 5, .negSucc 3, .ofNat 8], [([.ofNat 1, .ofNat 1], .ofNat 1), ([.negSucc 0, .ofNat 2], .ofNat 3)])]
noncomputable def rows3 : List (Nat × Nat × List Int × List (List Int × Int)) := [
  (0, 1, [.negSucc 0, .ofNat 1], [([.negSucc 0, .ofNat 1], .ofNat 1)]),
  (0, 2, [.negSucc 0, .ofNat 1], [([.negSucc 0, .ofNat 1], .ofNat 1)]),
  (0, 3, [.negSucc 0, .ofNat 1], [([.negSucc 0, .ofNat 1], .ofNat 1)]),
  (1, 1, [.ofNat 0, .negSucc 0, .ofNat 1], [([.ofNat 0, .negSucc 0, .ofNat 1], .ofNat 1)]),
  (1, 2, [.ofNat 0, .ofNat 0, .negSucc 0, .ofNat 1], [([.negSucc 0, .ofNat 1], .ofNat 1), ([.ofNat 0, .ofNat 1], .ofNat 2)]),
  (1, 3, [.ofNat 0, .ofNat 0, .ofNat 0, .negSucc 0, .ofNat 1], [([.negSucc 0, .ofNat 1], .ofNat 1), ([.ofNat 0, .ofNat 1], .ofNat 3)]),
  (2, 1, [.negSucc 0, .ofNat 0, .ofNat 1], [([.negSucc 0, .ofNat 0, .ofNat 1], .ofNat 1)]),
  (2, 2, [.negSucc 0, .negSucc 0, .ofNat 1, .ofNat 1], [([.negSucc 0, .ofNat 1], .ofNat 1), ([.ofNat 1, .ofNat 1], .ofNat 2)]),
  (2, 3, [.negSucc 0, .negSucc 1, .ofNat 0, .ofNat 2, .ofNat 1], [([.negSucc 0, .ofNat 1], .ofNat 1), ([.ofNat 1, .ofNat 1], .ofNat 3)]),
  (3, 1, [.ofNat 1, .negSucc 1, .ofNat 1], [([.negSucc 0, .ofNat 1], .ofNat 2)]),
  (3, 2, [.negSucc 0, .ofNat 3, .negSucc 2, .ofNat 1], [([.negSucc 0, .ofNat 1], .ofNat 3)]),
  (3, 3, [.ofNat 1, .negSucc 3, .ofNat 6, .negSucc 3, .ofNat 1], [([.negSucc 0, .ofNat 1], .ofNat 4)]),
  (4, 1, [.negSucc 0, .negSucc 0, .ofNat 2], [([.negSucc 0, .negSucc 0, .ofNat 2], .ofNat 1)]),
  (4, 2, [.negSucc 0, .negSucc 2, .ofNat 0, .ofNat 4], [([.negSucc 0, .ofNat 1], .ofNat 1), ([.ofNat 1, .ofNat 2], .ofNat 2)]),
  (4, 3, [.negSucc 0, .negSucc 4, .negSucc 5, .ofNat 4, .ofNat 8], [([.negSucc 0, .ofNat 1], .ofNat 1), ([.ofNat 1, .ofNat 2], .ofNat 3)]),
  (5, 1, [.ofNat 2, .negSucc 4, .ofNat 3], [([.ofNat 2, .negSucc 4, .ofNat 3], .ofNat 1)]),
  (5, 2, [.negSucc 3, .ofNat 16, .negSucc 20, .ofNat 9], [([.negSucc 0, .ofNat 1], .ofNat 1), ([.negSucc 1, .ofNat 3], .ofNat 2)]),
  (5, 3, [.ofNat 8, .negSucc 43, .ofNat 90, .negSucc 80, .ofNat 27], [([.negSucc 0, .ofNat 1], .ofNat 1), ([.negSucc 1, .ofNat 3], .ofNat 3)]),
  (6, 1, [.ofNat 1, .negSucc 2, .ofNat 2], [([.ofNat 1, .negSucc 2, .ofNat 2], .ofNat 1)]),
  (6, 2, [.negSucc 0, .ofNat 5, .negSucc 7, .ofNat 4], [([.negSucc 0, .ofNat 1], .ofNat 1), ([.negSucc 0, .ofNat 2], .ofNat 2)]),
  (6, 3, [.ofNat 1, .negSucc 6, .ofNat 18, .negSucc 19, .ofNat 8], [([.negSucc 0, .ofNat 1], .ofNat 1), ([.negSucc 0, .ofNat 2], .ofNat 3)])]
noncomputable def rows4 : List (Nat × Nat × List Int × List (List Int × Int)) := [
  (0, 1, [.ofNat 1, .ofNat 2], [([.ofNat 1, .ofNat 2], .ofNat 1)]),
  (0, 2, [.ofNat 1, .ofNat 2], [([.ofNat 1, .ofNat 2], .ofNat 1)]),
  (0, 3, [.ofNat 1, .ofNat 2], [([.ofNat 1, .ofNat 2], .ofNat 1)]),
  (1, 1, [.ofNat 0, .ofNat 1, .ofNat 2], [([.ofNat 0, .ofNat 1, .ofNat 2], .ofNat 1)]),
  (1, 2, [.ofNat 0, .ofNat 0, .ofNat 1, .ofNat 2], [([.ofNat 1, .ofNat 2], .ofNat 1), ([.ofNat 0, .ofNat 1], .ofNat 2)]),
  (1, 3, [.ofNat 0, .ofNat 0, .ofNat 0, .ofNat 1, .ofNat 2], [([.ofNat 1, .ofNat 2], .ofNat 1), ([.ofNat 0, .ofNat 1], .ofNat 3)]),
  (2, 1, [.ofNat 1, .ofNat 3, .ofNat 2], [([.ofNat 1, .ofNat 3, .ofNat 2], .ofNat 1)]),
  (2, 2, [.ofNat 1, .ofNat 4, .ofNat 5, .ofNat 2], [([.ofNat 1, .ofNat 2], .ofNat 1), ([.ofNat 1, .ofNat 1], .ofNat 2)]),
  (2, 3, [.ofNat 1, .ofNat 5, .ofNat 9, .ofNat 7, .ofNat 2], [([.ofNat 1, .ofNat 2], .ofNat 1), ([.ofNat 1, .ofNat 1], .ofNat 3)]),
  (3, 1, [.negSucc 0, .negSucc 0, .ofNat 2], [([.negSucc 0, .negSucc 0, .ofNat 2], .ofNat 1)]),
  (3, 2, [.ofNat 1, .ofNat 0, .negSucc 2, .ofNat 2], [([.ofNat 1, .ofNat 2], .ofNat 1), ([.negSucc 0, .ofNat 1], .ofNat 2)]),
  (3, 3, [.negSucc 0, .ofNat 1, .ofNat 3, .negSucc 4, .ofNat 2], [([.ofNat 1, .ofNat 2], .ofNat 1), ([.negSucc 0, .ofNat 1], .ofNat 3)]),
  (4, 1, [.ofNat 1, .ofNat 4, .ofNat 4], [([.ofNat 1, .ofNat 2], .ofNat 2)]),
  (4, 2, [.ofNat 1, .ofNat 6, .ofNat 12, .ofNat 8], [([.ofNat 1, .ofNat 2], .ofNat 3)]),
  (4, 3, [.ofNat 1, .ofNat 8, .ofNat 24, .ofNat 32, .ofNat 16], [([.ofNat 1, .ofNat 2], .ofNat 4)]),
  (5, 1, [.negSucc 1, .negSucc 0, .ofNat 6], [([.negSucc 1, .negSucc 0, .ofNat 6], .ofNat 1)]),
  (5, 2, [.ofNat 4, .negSucc 3, .negSucc 14, .ofNat 18], [([.ofNat 1, .ofNat 2], .ofNat 1), ([.negSucc 1, .ofNat 3], .ofNat 2)]),
  (5, 3, [.negSucc 7, .ofNat 20, .ofNat 18, .negSucc 80, .ofNat 54], [([.ofNat 1, .ofNat 2], .ofNat 1), ([.negSucc 1, .ofNat 3], .ofNat 3)]),
  (6, 1, [.negSucc 0, .ofNat 0, .ofNat 4], [([.negSucc 0, .ofNat 0, .ofNat 4], .ofNat 1)]),
  (6, 2, [.ofNat 1, .negSucc 1, .negSucc 3, .ofNat 8], [([.ofNat 1, .ofNat 2], .ofNat 1), ([.negSucc 0, .ofNat 2], .ofNat 2)]),
  (6, 3, [.negSucc 0, .ofNat 4, .ofNat 0, .negSucc 15, .ofNat 16], [([.ofNat 1, .ofNat 2], .ofNat 1), ([.negSucc 0, .ofNat 2], .ofNat 3)])]
noncomputable def rows5 : List (Nat × Nat × List Int × List (List Int × Int)) := [
  (0, 1, [.negSucc 1, .ofNat 3], [([.negSucc 1, .ofNat 3], .ofNat 1)]),
  (0, 2, [.negSucc 1, .ofNat 3], [([.negSucc 1, .ofNat 3], .ofNat 1)]),
  (0, 3, [.negSucc 1, .ofNat 3], [([.negSucc 1, .ofNat 3], .ofNat 1)]),
  (1, 1, [.ofNat 0, .negSucc 1, .ofNat 3], [([.ofNat 0, .negSucc 1, .ofNat 3], .ofNat 1)]),
  (1, 2, [.ofNat 0, .ofNat 0, .negSucc 1, .ofNat 3], [([.negSucc 1, .ofNat 3], .ofNat 1), ([.ofNat 0, .ofNat 1], .ofNat 2)]),
  (1, 3, [.ofNat 0, .ofNat 0, .ofNat 0, .negSucc 1, .ofNat 3], [([.negSucc 1, .ofNat 3], .ofNat 1), ([.ofNat 0, .ofNat 1], .ofNat 3)]),
  (2, 1, [.negSucc 1, .ofNat 1, .ofNat 3], [([.negSucc 1, .ofNat 1, .ofNat 3], .ofNat 1)]),
  (2, 2, [.negSucc 1, .negSucc 0, .ofNat 4, .ofNat 3], [([.negSucc 1, .ofNat 3], .ofNat 1), ([.ofNat 1, .ofNat 1], .ofNat 2)]),
  (2, 3, [.negSucc 1, .negSucc 2, .ofNat 3, .ofNat 7, .ofNat 3], [([.negSucc 1, .ofNat 3], .ofNat 1), ([.ofNat 1, .ofNat 1], .ofNat 3)]),
  (3, 1, [.ofNat 2, .negSucc 4, .ofNat 3], [([.ofNat 2, .negSucc 4, .ofNat 3], .ofNat 1)]),
  (3, 2, [.negSucc 1, .ofNat 7, .negSucc 7, .ofNat 3], [([.negSucc 1, .ofNat 3], .ofNat 1), ([.negSucc 0, .ofNat 1], .ofNat 2)]),
  (3, 3, [.ofNat 2, .negSucc 8, .ofNat 15, .negSucc 10, .ofNat 3], [([.negSucc 1, .ofNat 3], .ofNat 1), ([.negSucc 0, .ofNat 1], .ofNat 3)]),
  (4, 1, [.negSucc 1, .negSucc 0, .ofNat 6], [([.negSucc 1, .negSucc 0, .ofNat 6], .ofNat 1)]),
  (4, 2, [.negSucc 1, .negSucc 4, .ofNat 4, .ofNat 12], [([.negSucc 1, .ofNat 3], .ofNat 1), ([.ofNat 1, .ofNat 2], .ofNat 2)]),
  (4, 3, [.negSucc 1, .negSucc 8, .negSucc 5, .ofNat 20, .ofNat 24], [([.negSucc 1, .ofNat 3], .ofNat 1), ([.ofNat 1, .ofNat 2], .ofNat 3)]),
  (5, 1, [.ofNat 4, .negSucc 11, .ofNat 9], [([.negSucc 1, .ofNat 3], .ofNat 2)]),
  (5, 2, [.negSucc 7, .ofNat 36, .negSucc 53, .ofNat 27], [([.negSucc 1, .ofNat 3], .ofNat 3)]),
  (5, 3, [.ofNat 16, .negSucc 95, .ofNat 216, .negSucc 215, .ofNat 81], [([.negSucc 1, .ofNat 3], .ofNat 4)]),
  (6, 1, [.ofNat 2, .negSucc 6, .ofNat 6], [([.ofNat 2, .negSucc 6, .ofNat 6], .ofNat 1)]),
  (6, 2, [.negSucc 1, .ofNat 11, .negSucc 19, .ofNat 12], [([.negSucc 1, .ofNat 3], .ofNat 1), ([.negSucc 0, .ofNat 2], .ofNat 2)]),
  (6, 3, [.ofNat 2, .negSucc 14, .ofNat 42, .negSucc 51, .ofNat 24], [([.negSucc 1, .ofNat 3], .ofNat 1), ([.negSucc 0, .ofNat 2], .ofNat 3)])]
noncomputable def rows6 : List (Nat × Nat × List Int × List (List Int × Int)) := [
  (0, 1, [.negSucc 0, .ofNat 2], [([.negSucc 0, .ofNat 2], .ofNat 1)]),
  (0, 2, [.negSucc 0, .ofNat 2], [([.negSucc 0, .ofNat 2], .ofNat 1)]),
  (0, 3, [.negSucc 0, .ofNat 2], [([.negSucc 0, .ofNat 2], .ofNat 1)]),
  (1, 1, [.ofNat 0, .negSucc 0, .ofNat 2], [([.ofNat 0, .negSucc 0, .ofNat 2], .ofNat 1)]),
  (1, 2, [.ofNat 0, .ofNat 0, .negSucc 0, .ofNat 2], [([.negSucc 0, .ofNat 2], .ofNat 1), ([.ofNat 0, .ofNat 1], .ofNat 2)]),
  (1, 3, [.ofNat 0, .ofNat 0, .ofNat 0, .negSucc 0, .ofNat 2], [([.negSucc 0, .ofNat 2], .ofNat 1), ([.ofNat 0, .ofNat 1], .ofNat 3)]),
  (2, 1, [.negSucc 0, .ofNat 1, .ofNat 2], [([.negSucc 0, .ofNat 1, .ofNat 2], .ofNat 1)]),
  (2, 2, [.negSucc 0, .ofNat 0, .ofNat 3, .ofNat 2], [([.negSucc 0, .ofNat 2], .ofNat 1), ([.ofNat 1, .ofNat 1], .ofNat 2)]),
  (2, 3, [.negSucc 0, .negSucc 0, .ofNat 3, .ofNat 5, .ofNat 2], [([.negSucc 0, .ofNat 2], .ofNat 1), ([.ofNat 1, .ofNat 1], .ofNat 3)]),
  (3, 1, [.ofNat 1, .negSucc 2, .ofNat 2], [([.ofNat 1, .negSucc 2, .ofNat 2], .ofNat 1)]),
  (3, 2, [.negSucc 0, .ofNat 4, .negSucc 4, .ofNat 2], [([.negSucc 0, .ofNat 2], .ofNat 1), ([.negSucc 0, .ofNat 1], .ofNat 2)]),
  (3, 3, [.ofNat 1, .negSucc 4, .ofNat 9, .negSucc 6, .ofNat 2], [([.negSucc 0, .ofNat 2], .ofNat 1), ([.negSucc 0, .ofNat 1], .ofNat 3)]),
  (4, 1, [.negSucc 0, .ofNat 0, .ofNat 4], [([.negSucc 0, .ofNat 0, .ofNat 4], .ofNat 1)]),
  (4, 2, [.negSucc 0, .negSucc 1, .ofNat 4, .ofNat 8], [([.negSucc 0, .ofNat 2], .ofNat 1), ([.ofNat 1, .ofNat 2], .ofNat 2)]),
  (4, 3, [.negSucc 0, .negSucc 3, .ofNat 0, .ofNat 16, .ofNat 16], [([.negSucc 0, .ofNat 2], .ofNat 1), ([.ofNat 1, .ofNat 2], .ofNat 3)]),
  (5, 1, [.ofNat 2, .negSucc 6, .ofNat 6], [([.ofNat 2, .negSucc 6, .ofNat 6], .ofNat 1)]),
  (5, 2, [.negSucc 3, .ofNat 20, .negSucc 32, .ofNat 18], [([.negSucc 0, .ofNat 2], .ofNat 1), ([.negSucc 1, .ofNat 3], .ofNat 2)]),
  (5, 3, [.ofNat 8, .negSucc 51, .ofNat 126, .negSucc 134, .ofNat 54], [([.negSucc 0, .ofNat 2], .ofNat 1), ([.negSucc 1, .ofNat 3], .ofNat 3)]),
  (6, 1, [.ofNat 1, .negSucc 3, .ofNat 4], [([.negSucc 0, .ofNat 2], .ofNat 2)]),
  (6, 2, [.negSucc 0, .ofNat 6, .negSucc 11, .ofNat 8], [([.negSucc 0, .ofNat 2], .ofNat 3)]),
  (6, 3, [.ofNat 1, .negSucc 7, .ofNat 24, .negSucc 31, .ofNat 16], [([.negSucc 0, .ofNat 2], .ofNat 4)])]
noncomputable def rows7 : List (Nat × Nat × List Int × List (List Int × Int)) := [
  (0, 1, [.ofNat 1, .ofNat 0, .ofNat 1], [([.ofNat 1, .ofNat 0, .ofNat 1], .ofNat 1)]),
  (0, 2, [.ofNat 1, .ofNat 0, .ofNat 1], [([.ofNat 1, .ofNat 0, .ofNat 1], .ofNat 1)]),
  (0, 3, [.ofNat 1, .ofNat 0, .ofNat 1], [([.ofNat 1, .ofNat 0, .ofNat 1], .ofNat 1)]),
  (1, 1, [.ofNat 0, .ofNat 1, .ofNat 0, .ofNat 1], [([.ofNat 0, .ofNat 1, .ofNat 0, .ofNat 1], .ofNat 1)]),
  (1, 2, [.ofNat 0, .ofNat 0, .ofNat 1, .ofNat 0, .ofNat 1], [([.ofNat 1, .ofNat 0, .ofNat 1], .ofNat 1), ([.ofNat 0, .ofNat 1], .ofNat 2)]),
  (1, 3, [.ofNat 0, .ofNat 0, .ofNat 0, .ofNat 1, .ofNat 0, .ofNat 1], [([.ofNat 1, .ofNat 0, .ofNat 1], .ofNat 1), ([.ofNat 0, .ofNat 1], .ofNat 3)]),
  (2, 1, [.ofNat 1, .ofNat 1, .ofNat 1, .ofNat 1], [([.ofNat 1, .ofNat 1, .ofNat 1, .ofNat 1], .ofNat 1)]),
  (2, 2, [.ofNat 1, .ofNat 2, .ofNat 2, .ofNat 2, .ofNat 1], [([.ofNat 1, .ofNat 0, .ofNat 1], .ofNat 1), ([.ofNat 1, .ofNat 1], .ofNat 2)]),
  (2, 3, [.ofNat 1, .ofNat 3, .ofNat 4, .ofNat 4, .ofNat 3, .ofNat 1], [([.ofNat 1, .ofNat 0, .ofNat 1], .ofNat 1), ([.ofNat 1, .ofNat 1], .ofNat 3)]),
  (3, 1, [.negSucc 0, .ofNat 1, .negSucc 0, .ofNat 1], [([.negSucc 0, .ofNat 1, .negSucc 0, .ofNat 1], .ofNat 1)]),
  (3, 2, [.ofNat 1, .negSucc 1, .ofNat 2, .negSucc 1, .ofNat 1], [([.ofNat 1, .ofNat 0, .ofNat 1], .ofNat 1), ([.negSucc 0, .ofNat 1], .ofNat 2)]),
  (3, 3, [.negSucc 0, .ofNat 3, .negSucc 3, .ofNat 4, .negSucc 2, .ofNat 1], [([.ofNat 1, .ofNat 0, .ofNat 1], .ofNat 1), ([.negSucc 0, .ofNat 1], .ofNat 3)]),
  (4, 1, [.ofNat 1, .ofNat 2, .ofNat 1, .ofNat 2], [([.ofNat 1, .ofNat 2, .ofNat 1, .ofNat 2], .ofNat 1)]),
  (4, 2, [.ofNat 1, .ofNat 4, .ofNat 5, .ofNat 4, .ofNat 4], [([.ofNat 1, .ofNat 0, .ofNat 1], .ofNat 1), ([.ofNat 1, .ofNat 2], .ofNat 2)]),
  (4, 3, [.ofNat 1, .ofNat 6, .ofNat 13, .ofNat 14, .ofNat 12, .ofNat 8], [([.ofNat 1, .ofNat 0, .ofNat 1], .ofNat 1), ([.ofNat 1, .ofNat 2], .ofNat 3)]),
  (5, 1, [.negSucc 1, .ofNat 3, .negSucc 1, .ofNat 3], [([.negSucc 1, .ofNat 3, .negSucc 1, .ofNat 3], .ofNat 1)]),
  (5, 2, [.ofNat 4, .negSucc 11, .ofNat 13, .negSucc 11, .ofNat 9], [([.ofNat 1, .ofNat 0, .ofNat 1], .ofNat 1), ([.negSucc 1, .ofNat 3], .ofNat 2)]),
  (5, 3, [.negSucc 7, .ofNat 36, .negSucc 61, .ofNat 63, .negSucc 53, .ofNat 27], [([.ofNat 1, .ofNat 0, .ofNat 1], .ofNat 1), ([.negSucc 1, .ofNat 3], .ofNat 3)]),
  (6, 1, [.negSucc 0, .ofNat 2, .negSucc 0, .ofNat 2], [([.negSucc 0, .ofNat 2, .negSucc 0, .ofNat 2], .ofNat 1)]),
  (6, 2, [.ofNat 1, .negSucc 3, .ofNat 5, .negSucc 3, .ofNat 4], [([.ofNat 1, .ofNat 0, .ofNat 1], .ofNat 1), ([.negSucc 0, .ofNat 2], .ofNat 2)]),
  (6, 3, [.negSucc 0, .ofNat 6, .negSucc 12, .ofNat 14, .negSucc 11, .ofNat 8], [([.ofNat 1, .ofNat 0, .ofNat 1], .ofNat 1), ([.negSucc 0, .ofNat 2], .ofNat 3)])]
noncomputable def rows8 : List (Nat × Nat × List Int × List (List Int × Int)) := [
  (0, 1, [.negSucc 1, .ofNat 0, .ofNat 1], [([.negSucc 1, .ofNat 0, .ofNat 1], .ofNat 1)]),
  (0, 2, [.negSucc 1, .ofNat 0, .ofNat 1], [([.negSucc 1, .ofNat 0, .ofNat 1], .ofNat 1)]),
  (0, 3, [.negSucc 1, .ofNat 0, .ofNat 1], [([.negSucc 1, .ofNat 0, .ofNat 1], .ofNat 1)]),
  (1, 1, [.ofNat 0, .negSucc 1, .ofNat 0, .ofNat 1], [([.ofNat 0, .negSucc 1, .ofNat 0, .ofNat 1], .ofNat 1)]),
  (1, 2, [.ofNat 0, .ofNat 0, .negSucc 1, .ofNat 0, .ofNat 1], [([.negSucc 1, .ofNat 0, .ofNat 1], .ofNat 1), ([.ofNat 0, .ofNat 1], .ofNat 2)]),
  (1, 3, [.ofNat 0, .ofNat 0, .ofNat 0, .negSucc 1, .ofNat 0, .ofNat 1], [([.negSucc 1, .ofNat 0, .ofNat 1], .ofNat 1), ([.ofNat 0, .ofNat 1], .ofNat 3)]),
  (2, 1, [.negSucc 1, .negSucc 1, .ofNat 1, .ofNat 1], [([.negSucc 1, .negSucc 1, .ofNat 1, .ofNat 1], .ofNat 1)]),
  (2, 2, [.negSucc 1, .negSucc 3, .negSucc 0, .ofNat 2, .ofNat 1], [([.negSucc 1, .ofNat 0, .ofNat 1], .ofNat 1), ([.ofNat 1, .ofNat 1], .ofNat 2)]),
  (2, 3, [.negSucc 1, .negSucc 5, .negSucc 4, .ofNat 1, .ofNat 3, .ofNat 1], [([.negSucc 1, .ofNat 0, .ofNat 1], .ofNat 1), ([.ofNat 1, .ofNat 1], .ofNat 3)]),
  (3, 1, [.ofNat 2, .negSucc 1, .negSucc 0, .ofNat 1], [([.ofNat 2, .negSucc 1, .negSucc 0, .ofNat 1], .ofNat 1)]),
  (3, 2, [.negSucc 1, .ofNat 4, .negSucc 0, .negSucc 1, .ofNat 1], [([.negSucc 1, .ofNat 0, .ofNat 1], .ofNat 1), ([.negSucc 0, .ofNat 1], .ofNat 2)]),
  (3, 3, [.ofNat 2, .negSucc 5, .ofNat 5, .ofNat 1, .negSucc 2, .ofNat 1], [([.negSucc 1, .ofNat 0, .ofNat 1], .ofNat 1), ([.negSucc 0, .ofNat 1], .ofNat 3)]),
  (4, 1, [.negSucc 1, .negSucc 3, .ofNat 1, .ofNat 2], [([.negSucc 1, .negSucc 3, .ofNat 1, .ofNat 2], .ofNat 1)]),
  (4, 2, [.negSucc 1, .negSucc 7, .negSucc 6, .ofNat 4, .ofNat 4], [([.negSucc 1, .ofNat 0, .ofNat 1], .ofNat 1), ([.ofNat 1, .ofNat 2], .ofNat 2)]),
  (4, 3, [.negSucc 1, .negSucc 11, .negSucc 22, .negSucc 9, .ofNat 12, .ofNat 8], [([.negSucc 1, .ofNat 0, .ofNat 1], .ofNat 1), ([.ofNat 1, .ofNat 2], .ofNat 3)]),
  (5, 1, [.ofNat 4, .negSucc 5, .negSucc 1, .ofNat 3], [([.ofNat 4, .negSucc 5, .negSucc 1, .ofNat 3], .ofNat 1)]),
  (5, 2, [.negSucc 7, .ofNat 24, .negSucc 13, .negSucc 11, .ofNat 9], [([.negSucc 1, .ofNat 0, .ofNat 1], .ofNat 1), ([.negSucc 1, .ofNat 3], .ofNat 2)]),
  (5, 3, [.ofNat 16, .negSucc 71, .ofNat 100, .negSucc 17, .negSucc 53, .ofNat 27], [([.negSucc 1, .ofNat 0, .ofNat 1], .ofNat 1), ([.negSucc 1, .ofNat 3], .ofNat 3)]),
  (6, 1, [.ofNat 2, .negSucc 3, .negSucc 0, .ofNat 2], [([.ofNat 2, .negSucc 3, .negSucc 0, .ofNat 2], .ofNat 1)]),
  (6, 2, [.negSucc 1, .ofNat 8, .negSucc 6, .negSucc 3, .ofNat 4], [([.negSucc 1, .ofNat 0, .ofNat 1], .ofNat 1), ([.negSucc 0, .ofNat 2], .ofNat 2)]),
  (6, 3, [.ofNat 2, .negSucc 11, .ofNat 23, .negSucc 9, .negSucc 11, .ofNat 8], [([.negSucc 1, .ofNat 0, .ofNat 1], .ofNat 1), ([.negSucc 0, .ofNat 2], .ofNat 3)])]
noncomputable def rows9 : List (Nat × Nat × List Int × List (List Int × Int)) := [
  (0, 1, [.ofNat 3, .negSucc 1, .ofNat 2], [([.ofNat 3, .negSucc 1, .ofNat 2], .ofNat 1)]),
  (0, 2, [.ofNat 3, .negSucc 1, .ofNat 2], [([.ofNat 3, .negSucc 1, .ofNat 2], .ofNat 1)]),
  (0, 3, [.ofNat 3, .negSucc 1, .ofNat 2], [([.ofNat 3, .negSucc 1, .ofNat 2], .ofNat 1)]),
  (1, 1, [.ofNat 0, .ofNat 3, .negSucc 1, .ofNat 2], [([.ofNat 0, .ofNat 3, .negSucc 1, .ofNat 2], .ofNat 1)]),
  (1, 2, [.ofNat 0, .ofNat 0, .ofNat 3, .negSucc 1, .ofNat 2], [([.ofNat 3, .negSucc 1, .ofNat 2], .ofNat 1), ([.ofNat 0, .ofNat 1], .ofNat 2)]),
  (1, 3, [.ofNat 0, .ofNat 0, .ofNat 0, .ofNat 3, .negSucc 1, .ofNat 2], [([.ofNat 3, .negSucc 1, .ofNat 2], .ofNat 1), ([.ofNat 0, .ofNat 1], .ofNat 3)]),
  (2, 1, [.ofNat 3, .ofNat 1, .ofNat 0, .ofNat 2], [([.ofNat 3, .ofNat 1, .ofNat 0, .ofNat 2], .ofNat 1)]),
  (2, 2, [.ofNat 3, .ofNat 4, .ofNat 1, .ofNat 2, .ofNat 2], [([.ofNat 3, .negSucc 1, .ofNat 2], .ofNat 1), ([.ofNat 1, .ofNat 1], .ofNat 2)]),
  (2, 3, [.ofNat 3, .ofNat 7, .ofNat 5, .ofNat 3, .ofNat 4, .ofNat 2], [([.ofNat 3, .negSucc 1, .ofNat 2], .ofNat 1), ([.ofNat 1, .ofNat 1], .ofNat 3)]),
  (3, 1, [.negSucc 2, .ofNat 5, .negSucc 3, .ofNat 2], [([.negSucc 2, .ofNat 5, .negSucc 3, .ofNat 2], .ofNat 1)]),
  (3, 2, [.ofNat 3, .negSucc 7, .ofNat 9, .negSucc 5, .ofNat 2], [([.ofNat 3, .negSucc 1, .ofNat 2], .ofNat 1), ([.negSucc 0, .ofNat 1], .ofNat 2)]),
  (3, 3, [.negSucc 2, .ofNat 11, .negSucc 16, .ofNat 15, .negSucc 7, .ofNat 2], [([.ofNat 3, .negSucc 1, .ofNat 2], .ofNat 1), ([.negSucc 0, .ofNat 1], .ofNat 3)]),
  (4, 1, [.ofNat 3, .ofNat 4, .negSucc 1, .ofNat 4], [([.ofNat 3, .ofNat 4, .negSucc 1, .ofNat 4], .ofNat 1)]),
  (4, 2, [.ofNat 3, .ofNat 10, .ofNat 6, .ofNat 0, .ofNat 8], [([.ofNat 3, .negSucc 1, .ofNat 2], .ofNat 1), ([.ofNat 1, .ofNat 2], .ofNat 2)]),
  (4, 3, [.ofNat 3, .ofNat 16, .ofNat 26, .ofNat 12, .ofNat 8, .ofNat 16], [([.ofNat 3, .negSucc 1, .ofNat 2], .ofNat 1), ([.ofNat 1, .ofNat 2], .ofNat 3)]),
  (5, 1, [.negSucc 5, .ofNat 13, .negSucc 9, .ofNat 6], [([.negSucc 5, .ofNat 13, .negSucc 9, .ofNat 6], .ofNat 1)]),
  (5, 2, [.ofNat 12, .negSucc 43, .ofNat 59, .negSucc 41, .ofNat 18], [([.ofNat 3, .negSucc 1, .ofNat 2], .ofNat 1), ([.negSucc 1, .ofNat 3], .ofNat 2)]),
  (5, 3, [.negSucc 23, .ofNat 124, .negSucc 249, .ofNat 261, .negSucc 161, .ofNat 54], [([.ofNat 3, .negSucc 1, .ofNat 2], .ofNat 1), ([.negSucc 1, .ofNat 3], .ofNat 3)]),
  (6, 1, [.negSucc 2, .ofNat 8, .negSucc 5, .ofNat 4], [([.negSucc 2, .ofNat 8, .negSucc 5, .ofNat 4], .ofNat 1)]),
  (6, 2, [.ofNat 3, .negSucc 13, .ofNat 22, .negSucc 15, .ofNat 8], [([.ofNat 3, .negSucc 1, .ofNat 2], .ofNat 1), ([.negSucc 0, .ofNat 2], .ofNat 2)]),
  (6, 3, [.negSucc 2, .ofNat 20, .negSucc 49, .ofNat 60, .negSucc 39, .ofNat 16], [([.ofNat 3, .negSucc 1, .ofNat 2], .ofNat 1), ([.negSucc 0, .ofNat 2], .ofNat 3)])]
theorem tH0 : chkH rows0 = true := by decide +kernel
theorem tR0 : rows0.all (chkR 0) = true := by decide +kernel
theorem tP0 : rows0.all (fun r => chkP r.2.2.1 r.2.2.2) = true := by decide +kernel
theorem tG0 : rows0.all (fun r => (List.range 10).all fun l => chkG 0 r.1 l r.2.2.1 (pP l)) = true := by decide +kernel
theorem tN0 : rows0.all (fun r => (List.range 10).all fun l => chkN 0 r.1 l r.2.2.1 (pP l)) = true := by decide +kernel
theorem tQ0 : rows0.all (fun r => (List.range 10).all fun l => chkQ 0 r.1 l r.2.2.1 (pP l)) = true := by decide +kernel
theorem tH1 : chkH rows1 = true := by decide +kernel
theorem tR1 : rows1.all (chkR 1) = true := by decide +kernel
theorem tP1 : rows1.all (fun r => chkP r.2.2.1 r.2.2.2) = true := by decide +kernel
theorem tG1 : rows1.all (fun r => (List.range 10).all fun l => chkG 1 r.1 l r.2.2.1 (pP l)) = true := by decide +kernel
theorem tN1 : rows1.all (fun r => (List.range 10).all fun l => chkN 1 r.1 l r.2.2.1 (pP l)) = true := by decide +kernel
theorem tQ1 : rows1.all (fun r => (List.range 10).all fun l => chkQ 1 r.1 l r.2.2.1 (pP l)) = true := by decide +kernel
theorem tH2 : chkH rows2 = true := by decide +kernel
theorem tR2 : rows2.all (chkR 2) = true := by decide +kernel
theorem tP2 : rows2.all (fun r => chkP r.2.2.1 r.2.2.2) = true := by decide +kernel
theorem tG2 : rows2.all (fun r => (List.range 10).all fun l => chkG 2 r.1 l r.2.2.1 (pP l)) = true := by decide +kernel
theorem tN2 : rows2.all (fun r => (List.range 10).all fun l => chkN 2 r.1 l r.2.2.1 (pP l)) = true := by decide +kernel
theorem tQ2 : rows2.all (fun r => (List.range 10).all fun l => chkQ 2 r.1 l r.2.2.1 (pP l)) = true := by decide +kernel
theorem tH3 : chkH rows3 = true := by decide +kernel
theorem tR3 : rows3.all (chkR 3) = true := by decide +kernel
theorem tP3 : rows3.all (fun r => chkP r.2.2.1 r.2.2.2) = true := by decide +kernel
theorem tG3 : rows3.all (fun r => (List.range 10).all fun l => chkG 3 r.1 l r.2.2.1 (pP l)) = true := by decide +kernel
theorem tN3 : rows3.all (fun r => (List.range 10).all fun l => chkN 3 r.1 l r.2.2.1 (pP l)) = true := by decide +kernel
theorem tQ3 : rows3.all (fun r => (List.range 10).all fun l => chkQ 3 r.1 l r.2.2.1 (pP l)) = true := by decide +kernel
theorem tH4 : chkH rows4 = true := by decide +kernel
theorem tR4 : rows4.all (chkR 4) = true := by decide +kernel
theorem tP4 : rows4.all (fun r => chkP r.2.2.1 r.2.2.2) = true := by decide +kernel
theorem tG4 : rows4.all (fun r => (List.range 10).all fun l => chkG 4 r.1 l r.2.2.1 (pP l)) = true := by decide +kernel
theorem tN4 : rows4.all (fun r => (List.range 10).all fun l => chkN 4 r.1 l r.2.2.1 (pP l)) = true := by decide +kernel
theorem tQ4 : rows4.all (fun r => (List.range 10).all fun l => chkQ 4 r.1 l r.2.2.1 (pP l)) = true := by decide +kernel
theorem tH5 : chkH rows5 = true := by decide +kernel
theorem tR5 : rows5.all (chkR 5) = true := by decide +kernel
theorem tP5 : rows5.all (fun r => chkP r.2.2.1 r.2.2.2) = true := by decide +kernel
theorem tG5 : rows5.all (fun r => (List.range 10).all fun l => chkG 5 r.1 l r.2.2.1 (pP l)) = true := by decide +kernel
theorem tN5 : rows5.all (fun r => (List.range 10).all fun l => chkN 5 r.1 l r.2.2.1 (pP l)) = true := by decide +kernel
theorem tQ5 : rows5.all (fun r => (List.range 10).all fun l => chkQ 5 r.1 l r.2.2.1 (pP l)) = true := by decide +kernel
theorem tH6 : chkH rows6 = true := by decide +kernel
theorem tR6 : rows6.all (chkR 6) = true := by decide +kernel
theorem tP6 : rows6.all (fun r => chkP r.2.2.1 r.2.2.2) = true := by decide +kernel
theorem tG6 : rows6.all (fun r => (List.range 10).all fun l => chkG 6 r.1 l r.2.2.1 (pP l)) = true := by decide +kernel
theorem tN6 : rows6.all (fun r => (List.range 10).all fun l => chkN 6 r.1 l r.2.2.1 (pP l)) = true := by decide +kernel
theorem tQ6 : rows6.all (fun r => (List.range 10).all fun l => chkQ 6 r.1 l r.2.2.1 (pP l)) = true := by decide +kernel
theorem tH7 : chkH rows7 = true := by decide +kernel
theorem tR7 : rows7.all (chkR 7) = true := by decide +kernel
theorem tP7 : rows7.all (fun r => chkP r.2.2.1 r.2.2.2) = true := by decide +kernel
theorem tG7 : rows7.all (fun r => (List.range 10).all fun l => chkG 7 r.1 l r.2.2.1 (pP l)) = true := by decide +kernel
theorem tN7 : rows7.all (fun r => (List.range 10).all fun l => chkN 7 r.1 l r.2.2.1 (pP l)) = true := by decide +kernel
theorem tQ7 : rows7.all (fun r => (List.range 10).all fun l => chkQ 7 r.1 l r.2.2.1 (pP l)) = true := by decide +kernel
theorem tH8 : chkH rows8 = true := by decide +kernel
theorem tR8 : rows8.all (chkR 8) = true := by decide +kernel
theorem tP8 : rows8.all (fun r => chkP r.2.2.1 r.2.2.2) = true := by decide +kernel
theorem tG8 : rows8.all (fun r => (List.range 10).all fun l => chkG 8 r.1 l r.2.2.1 (pP l)) = true := by decide +kernel
theorem tN8 : rows8.all (fun r => (List.range 10).all fun l => chkN 8 r.1 l r.2.2.1 (pP l)) = true := by decide +kernel
theorem tQ8 : rows8.all (fun r => (List.range 10).all fun l => chkQ 8 r.1 l r.2.2.1 (pP l)) = true := by decide +kernel
theorem tH9 : chkH rows9 = true := by decide +kernel
theorem tR9 : rows9.all (chkR 9) = true := by decide +kernel
theorem tP9 : rows9.all (fun r => chkP r.2.2.1 r.2.2.2) = true := by decide +kernel
theorem tG9 : rows9.all (fun r => (List.range 10).all fun l => chkG 9 r.1 l r.2.2.1 (pP l)) = true := by decide +kernel
theorem tN9 : rows9.all (fun r => (List.range 10).all fun l => chkN 9 r.1 l r.2.2.1 (pP l)) = true := by decide +kernel
theorem tQ9 : rows9.all (fun r => (List.range 10).all fun l => chkQ 9 r.1 l r.2.2.1 (pP l)) = true := by decide +kernel
end Mine
end
section
open PySem
namespace Mine
set_option tactic.hygienic false
set_option autoImplicit false
structure Dat (i j e : Nat) (f : List Int) (want : List (List Int × Int)) : Prop where
  pr : prim f = true
  le : f.length ≤ 20
  co : ∀ c ∈ f, c.natAbs ≤ 275
  sw : ∀ p ∈ want, sm64 p.1 = true
  sp : ∀ o ∈ [(1 : Int), 2, 3, 4], ∀ part, Jn (prs i j e) o [1] = some part → sm64 part = true
  bl : Hl (prs i j e) [1, 2, 3, 4] [1] [] = some (f, want)
  ff : f = powC (pP j) e (pP i)
  bk : Jv want [1] = some f
  sf : sfParts f = some want
  gc : ∀ l, l < 10 → chkG i j l f (pP l) = true
  nd : ∀ l, l < 10 → chkN i j l f (pP l) = true
  qd : ∀ l, l < 10 → chkQ i j l f (pP l) = true
theorem Gz {i : Nat} {rs : List (Nat × Nat × List Int × List (List Int × Int))} (hH : chkH rs = true) (hR : rs.all (chkR i) = true) (hP : rs.all (fun r => chkP r.2.2.1 r.2.2.2) = true)
    (hG : rs.all (fun r => (List.range 10).all fun l => chkG i r.1 l r.2.2.1 (pP l)) = true) (hN : rs.all (fun r => (List.range 10).all fun l => chkN i r.1 l r.2.2.1 (pP l)) = true)
    (hQ : rs.all (fun r => (List.range 10).all fun l => chkQ i r.1 l r.2.2.1 (pP l)) = true) {j e : Nat} (hj : j < 7) (he : e ∈ [1, 2, 3]) : ∃ f want, Dat i j e f want := by
  unfold chkH at hH
  have h1 := List.all_eq_true.mp (List.all_eq_true.mp hH j (List.mem_range.mpr hj)) e he
  obtain ⟨⟨j', e', f, want⟩, hr, h2⟩ := List.any_eq_true.mp h1
  simp only [Bool.and_eq_true, beq_iff_eq] at h2
  obtain ⟨rfl, rfl⟩ := h2
  have r1 := List.all_eq_true.mp hR _ hr
  have r2 := List.all_eq_true.mp hP _ hr
  have r3 := List.all_eq_true.mp hG _ hr
  have r4 := List.all_eq_true.mp hN _ hr
  have r5 := List.all_eq_true.mp hQ _ hr
  simp only [chkR, chkA, chkB, chkF, chkC, Bool.and_eq_true, beq_iff_eq, decide_eq_true_eq] at r1
  simp only [chkP, beq_iff_eq] at r2
  obtain ⟨⟨⟨⟨⟨⟨⟨a1, a2⟩, a3⟩, a4⟩, a5⟩, b⟩, ff⟩, c⟩ := r1
  refine ⟨f, want, ⟨a1, a2, fun c hc => by simpa using List.all_eq_true.mp a3 c hc, fun p hp => List.all_eq_true.mp a4 p hp, fun o ho part hp => ?_, b, ff.symm, c, r2,
    fun l hl => List.all_eq_true.mp r3 l (List.mem_range.mpr hl), fun l hl => List.all_eq_true.mp r4 l (List.mem_range.mpr hl), fun l hl => List.all_eq_true.mp r5 l (List.mem_range.mpr hl)⟩⟩
  have := List.all_eq_true.mp a5 o ho
  rw [hp] at this
  exact this
theorem dat : ∀ (i j e : Nat), i < 10 → j < 7 → e ∈ [1, 2, 3] → ∃ f want, Dat i j e f want
  | 0, j, e, _, hj, he => Gz tH0 tR0 tP0 tG0 tN0 tQ0 hj he
  | 1, j, e, _, hj, he => Gz tH1 tR1 tP1 tG1 tN1 tQ1 hj he
  | 2, j, e, _, hj, he => Gz tH2 tR2 tP2 tG2 tN2 tQ2 hj he
  | 3, j, e, _, hj, he => Gz tH3 tR3 tP3 tG3 tN3 tQ3 hj he
  | 4, j, e, _, hj, he => Gz tH4 tR4 tP4 tG4 tN4 tQ4 hj he
  | 5, j, e, _, hj, he => Gz tH5 tR5 tP5 tG5 tN5 tQ5 hj he
  | 6, j, e, _, hj, he => Gz tH6 tR6 tP6 tG6 tN6 tQ6 hj he
  | 7, j, e, _, hj, he => Gz tH7 tR7 tP7 tG7 tN7 tQ7 hj he
  | 8, j, e, _, hj, he => Gz tH8 tR8 tP8 tG8 tN8 tQ8 hj he
  | 9, j, e, _, hj, he => Gz tH9 tR9 tP9 tG9 tN9 tQ9 hj he
  | n + 10, _, _, h, _, _ => by lia
noncomputable def aOf (k : Int) (f : List Int) : List Int := if k = 0 then [] else f.map (k * ·)
section
variable {i j e : Nat} {f : List Int} {want : List (List Int × Int)}
theorem Dat.small (D : Dat i j e f want) {k : Int} (hk : k.natAbs ≤ 4) : ∀ c ∈ aOf k f, c.natAbs ≤ 1100 := by
  intro c hc
  unfold aOf at hc
  split at hc
  · cases hc
  · obtain ⟨y, hy, e⟩ := List.mem_map.mp hc
    rw [← e]
    have h1 := D.co y hy
    show (k * y).natAbs ≤ 1100
    rw [Int.natAbs_mul]
    have := Nat.mul_le_mul hk h1
    assumption
theorem Dat.len (D : Dat i j e f want) (k : Int) : (aOf k f).length ≤ 20 := by
  unfold aOf
  split
  · simp
  · rw [List.length_map]; exact D.le
set_option tactic.hygienic true in
theorem Dat.tr (D : Dat i j e f want) (k : Int) : Ax (aOf k f) := by
  unfold aOf
  split
  · exact trimmed_nil
  · rename_i h; exact Fk h (Iv D.pr)
theorem Dat.smA (D : Dat i j e f want) {k : Int} (hk : k.natAbs ≤ 4) : Hx (aOf k f) := ⟨D.small hk, by have := D.len k; with_reducible exact Nat.le_trans ‹_› (by decide)⟩
theorem apart_ok (D : Dat i j e f want) {k : Int} (hk : k.natAbs ≤ 4) : ApartOk (aOf k f) k want (Ga (Aw (aOf k f))) where
  fac := fun h0 => by
    have hLI : LIM = 1048576 := rfl
    have hle := D.le
    unfold aOf
    rw [if_neg h0]
    constructor
    · unfold sqf
      rw [Ec h0 D.pr (by with_reducible exact Nat.le_trans ‹_› (by decide))]
      simp only
      rw [D.sf]
      simp only
      rw [Fd h0 D.pr]
    · have := backL_scale h0 want [1] f D.sw D.bk
      simpa using this
  zero := fun h => by unfold aOf; rw [if_pos h]
  sh := showS_eq (D.smA hk)
  shn := shownS_eq (D.smA hk)
  rd := read_shown (D.tr k) (D.smA hk)
theorem Fm {c : Int} (hc : c.natAbs < 2 ^ 64) (z : List Int) : Fj c z = some (z.map (c * ·)) := by
  unfold Fj
  rw [if_pos (List.all_eq_true.mpr fun y _ => Ix (bits_le hc))]
noncomputable def kS : List Int := [-4, -3, -2, -1, 0, 1, 2, 3, 4]
noncomputable def tS : List Int := [-2, -1, 1, 2, 3]
theorem best_gcd {k t : Int} (hk : k ∈ kS) (ht : t ∈ tS) (b : List Int) : (match (if k.fmod 2 = 0 ∧ t.fmod 2 = 0 then Fj 2 b else some b) with
    | some b1 => if k.fmod 3 = 0 ∧ t.fmod 3 = 0 then Fj 3 b1 else some b1
    | none => none) = some (b.map ((Int.gcd k t : Int) * ·)) := by
  have h : ∀ k ∈ kS, ∀ t ∈ tS, ((k.fmod 2 = 0 ∧ t.fmod 2 = 0) ∧ ¬ (k.fmod 3 = 0 ∧ t.fmod 3 = 0) ∧ Int.gcd k t = 2) ∨ (¬ (k.fmod 2 = 0 ∧ t.fmod 2 = 0) ∧ (k.fmod 3 = 0 ∧ t.fmod 3 = 0) ∧ Int.gcd k t = 3) ∨
    (¬ (k.fmod 2 = 0 ∧ t.fmod 2 = 0) ∧ ¬ (k.fmod 3 = 0 ∧ t.fmod 3 = 0) ∧ Int.gcd k t = 1) := by decide +kernel
  rcases h k hk t ht with ⟨h1, h2, h3⟩ | ⟨h1, h2, h3⟩ | ⟨h1, h2, h3⟩
  · rw [if_pos h1, Fm (by decide)]
    simp only
    rw [if_neg h2, h3]; rfl
  · rw [if_neg h1]
    simp only
    rw [if_pos h2, Fm (by decide), h3]; rfl
  · rw [if_neg h1]
    simp only
    rw [if_neg h2, h3]
    congr 1
    exact (map_one b).symm
set_option tactic.hygienic true in
theorem Kd {k t : Int} (hk : k ∈ kS) (ht : t ∈ tS) (a p : List Int) (l i j : Int) : bestOf a k l t i j p = some (if l = 10 then (if k < 0 then a.map (- ·) else a) else (if k = 0 ∨ l = i ∨ l = j then p else [1]).map ((Int.gcd k t : Int) * ·)) := by
  have := best_gcd hk ht (if k = 0 ∨ l = i ∨ l = j then p else [1])
  unfold bestOf
  simp only
  split at this
  · rename_i b1 q1
    try rw [q1]
    try simp only
    rw [this]
  · cases this
theorem pP_ok : ∀ l, l < 10 → prim (pP l) = true ∧ sm64 (pP l) = true ∧ (pP l).length ≤ 3 ∧ (∀ t ∈ tS, sm64 ((pP l).map (t * ·)) = true) ∧ Hq ((pP l).length + 2) [] (pP l) = some (pP l) := by
  decide +kernel
theorem cv_one (g : Nat → Int) (n : Nat) : cv g (co [1]) n = g n := by
  unfold cv
  rw [sm_one (d := n) (by exact Nat.lt_succ_self _) (fun k hk hne => ?_)]
  · rw [Nat.sub_self]; show g n * 1 = g n; lia
  · rw [Dw (by simp; lia)]; simp
theorem evH_eq : ∀ (a : List Int) (x : Int), evH a x = ev a x
  | [], x => rfl
  | c :: r, x => by
    have ih := evH_eq r x
    have h1 : evH (c :: r) x = c + x * evH r x := rfl
    rw [h1, ih]
    unfold ev
    rw [List.length_cons]
    have h2 : ∀ N, sm (fun n => co (c :: r) n * x ^ n) (N + 1) = c + x * sm (fun n => co r n * x ^ n) N := by
      intro N
      induction N with
      | zero => simp [sm, co]
      | succ N ihN =>
        rw [sm, ihN]
        simp only [sm]
        rw [Int.mul_add, ← Int.add_assoc]
        congr 1
        have : co (c :: r) (N + 1) = co r N := by unfold co; simp
        rw [this, Int.pow_succ, ← Int.mul_assoc, Int.mul_comm _ x]
    exact (h2 _).symm
theorem kS_le {k : Int} (h : k ∈ kS) : k.natAbs ≤ 4 := by
  have : ∀ k ∈ kS, k.natAbs ≤ 4 := by decide
  exact this k h
theorem Ke {t : Int} (h : t ∈ tS) : t ≠ 0 := by
  have : ∀ t ∈ tS, t ≠ 0 := by decide
  exact this t h
theorem tS_le {t : Int} (h : t ∈ tS) : t.natAbs < 2 ^ 64 := by
  have : ∀ t ∈ tS, t.natAbs < 2 ^ 64 := by decide
  exact this t h
theorem gcd_lt {k t : Int} (hk : k ∈ kS) (ht : t ∈ tS) : ((Int.gcd k t : Nat) : Int).natAbs < 2 ^ 64 := by
  have : ∀ k ∈ kS, ∀ t ∈ tS, ((Int.gcd k t : Nat) : Int).natAbs < 2 ^ 64 := by decide +kernel
  exact this k hk t ht
theorem no_quot (D : Dat i j e f want) {k t : Int} (hk : k ∈ kS) (hk0 : k ≠ 0) (ht : t ∈ tS) {l : Nat} (hl : l < 10) (hnf : ¬ (k.fmod t = 0 ∧ (l = 0 ∨ l = i ∨ l = j))) {q : List Int}
    (hq : ∀ n, co (f.map (k * ·)) n = cv (co q) (co ((pP l).map (t * ·))) n) : False := by
  by_cases h1 : k.fmod t = 0
  · have h2 : ¬ (l = 0 ∨ l = i ∨ l = j) := fun h => hnf ⟨h1, h⟩
    have h3 := D.nd l hl
    unfold chkN at h3
    have a1 : ¬ l = 0 := fun h => h2 (.inl h)
    have a2 : ¬ l = i := fun h => h2 (.inr (.inl h))
    have a3 : ¬ l = j := fun h => h2 (.inr (.inr h))
    simp only [a1, a2, a3, decide_false, Bool.false_or, decide_eq_true_eq, evH_eq] at h3
    apply h3
    have h4 := ev_mul hq 1000
    rw [ev_scale, ev_scale] at h4
    have h5 : ∀ k ∈ kS, k ≠ 0 → k ∣ 12 := by decide +kernel
    obtain ⟨m, hm⟩ := h5 k hk hk0
    apply Int.emod_eq_zero_of_dvd
    rw [hm]
    refine ⟨m * (ev q 1000 * t), ?_⟩
    rw [Int.mul_comm k m, Int.mul_assoc, h4]
    simp only [Int.mul_comm, Int.mul_assoc, Int.mul_left_comm]
  · apply h1
    have : t ∣ k := dvd_scale D.pr (fun c hc => by
      obtain ⟨n, hn, e⟩ := List.getElem_of_mem hc
      have h2 := hq n
      rw [Fn, Ge hn, e] at h2
      have h3 := cv_scale 1 t (co q) (co (pP l)) n
      rw [Int.one_mul] at h3
      rw [show (fun k => 1 * co q k) = co q from funext fun k => Int.one_mul _, ← show co ((pP l).map (t * ·)) = (fun k => t * co (pP l) k) from funext (Fn t (pP l))] at h3
      rw [h2, h3]
      exact Int.dvd_mul_right _ _)
    exact Int.fmod_eq_zero_of_dvd this
end
end Mine
end
section
open PySem
namespace Mine
set_option tactic.hygienic false
set_option autoImplicit false
section
variable {i j e : Nat} {f : List Int} {want : List (List Int × Int)}
set_option tactic.hygienic true in
theorem Dat.gcdp (D : Dat i j e f want) {k t : Int} (hk : k ∈ kS) (hk0 : k ≠ 0) (ht : t ∈ tS) {l : Nat} (hl : l < 10) :
    gcdP (f.map (k * ·)) ((pP l).map (t * ·)) = some ((if k = 0 ∨ (l : Int) = i ∨ (l : Int) = j then pP l else [1]).map ((Int.gcd k t : Int) * ·)) := by
  have hLI : LIM = 1048576 := rfl
  have hle := D.le
  obtain ⟨p1, p2, p3, p4, p5⟩ := pP_ok l hl
  unfold gcdP
  rw [Ec hk0 D.pr (by with_reducible exact Nat.le_trans ‹_› (by decide)), Ec (Ke ht) p1 (by with_reducible exact Nat.le_trans ‹_› (by decide))]
  simp only
  have h1 := D.gc l hl
  unfold chkG at h1
  split at h1
  · rename_i z hz
    try rw [hz]
    simp only [Bool.and_eq_true, beq_iff_eq, bne_iff_ne, ne_eq] at h1 ⊢
    rw [if_neg h1.1, h1.2]
    simp only
    have e1 : (if k = 0 ∨ (l : Int) = i ∨ (l : Int) = j then pP l else [1]) = (if l = i ∨ l = j then pP l else [1]) := by
      by_cases h : l = i ∨ l = j
      · rw [if_pos h, if_pos (by lia)]
      · rw [if_neg h, if_neg (by lia)]
    rw [if_neg, Fd hk0 D.pr, Fd (Ke ht) p1, Fm (gcd_lt hk ht), e1]
    split
    · lia
    · simp [hLI]
  · cases h1
theorem div_a (D : Dat i j e f want) {k t : Int} (hk : k ∈ kS) (hk0 : k ≠ 0) (ht : t ∈ tS) {l : Nat} (hl : l < 10) :
    ∃ w best q, DivOk (f.map (k * ·)) k l t i j (pP l) w best q := by
  have hLI : LIM = 1048576 := rfl
  have hle := D.le
  obtain ⟨p1, p2, p3, p4, p5⟩ := pP_ok l hl
  have hw := p4 t ht
  have hwn : (pP l).map (t * ·) ≠ [] := by simpa using Gc p1
  have han : f.map (k * ·) ≠ [] := by simpa using Gc D.pr
  have hwt : Ax ((pP l).map (t * ·)) := Fk (Ke ht) (Iv p1)
  have hat : Ax (f.map (k * ·)) := Fk hk0 (Iv D.pr)
  have hll : ¬ (l : Int) = 10 := by lia
  have hbest := Kd hk ht (f.map (k * ·)) (pP l) l i j
  rw [if_neg hll] at hbest
  have hgcd := D.gcdp hk hk0 ht hl
  have hdv : En (f.map (k * ·)) ((pP l).map (t * ·)) = Je (f.map (k * ·)) ((pP l).map (t * ·)) := by
    unfold En; rw [if_neg hwn, if_neg han]
  by_cases hf : k.fmod t = 0 ∧ (l = 0 ∨ l = i ∨ l = j)
  · -- it fits
    have hq0 : ∃ g0, Ax g0 ∧ ∀ n, co f n = cv (co g0) (co (pP l)) n := by
      by_cases h0 : l = i ∨ l = j
      · have h1 := D.qd l hl
        unfold chkQ at h1
        rcases ex_sound (Iv D.pr) (Iv p1) (Gc p1) (by with_reducible exact Nat.lt_of_le_of_lt ‹_› (by decide)) (by with_reducible exact Nat.le_trans ‹_› (by decide)) (Ia p2) with h2 | ⟨g, h2, h3, h4⟩
        · rw [h2] at h1
          rcases h0 with h0 | h0 <;> simp [h0] at h1
        · exact ⟨g, h3, h4⟩
      · have hl0 : l = 0 := by rcases hf.2 with h | h; · exact h
                               · exact absurd h h0
        subst hl0
        exact ⟨f, Iv D.pr, fun n => (cv_one (co f) n).symm⟩
    obtain ⟨g0, hg0, hc0⟩ := hq0
    obtain ⟨c, hc⟩ : ∃ c, k = c * t := ⟨k.fdiv t, by
      have := Int.mul_fdiv_add_fmod k t
      rw [hf.1, Int.add_zero, Int.mul_comm] at this
      exact this.symm⟩
    have hc1 : c ≠ 0 := by intro h; rw [h, Int.zero_mul] at hc; exact hk0 hc
    have hcv : ∀ n, co (f.map (k * ·)) n = cv (co (g0.map (c * ·))) (co ((pP l).map (t * ·))) n := by
      intro n
      rw [Fn, hc0, show co (g0.map (c * ·)) = fun n => c * co g0 n from funext (Fn c g0), show co ((pP l).map (t * ·)) = fun n => t * co (pP l) n from funext (Fn t (pP l)), cv_scale, hc]
    have hgt := Fk hc1 hg0
    have hex := ex_complete hat hwt hwn hgt (by rw [List.length_map]; with_reducible exact Nat.lt_of_le_of_lt ‹_› (by decide)) (by rw [List.length_map]; with_reducible exact Nat.le_trans ‹_› (by decide)) (fun x _ => Ia hw x) (Ia hw 0) hcv
    have hgl : (g0.map (c * ·)).length ≤ 20 := by
      refine len_le_co hgt (fun n hn => ?_)
      rw [Fn]
      refine (fun (h : co g0 n = 0) => by rw [h, Int.mul_zero]) ?_
      by_cases hne : g0 = []
      · rw [hne, Dw (by simp)]
      · have ht2 := hc0 ((g0.length - 1) + ((pP l).length - 1))
        have hgp : 0 < g0.length := List.length_pos_iff.mpr hne
        have hpp : 0 < (pP l).length := List.length_pos_iff.mpr (Gc p1)
        rw [cv_top (fun k hk => Dw (by lia)) (fun k hk => Dw (by lia))] at ht2
        have hnz := Int.mul_ne_zero (Ja hg0 hne) (Ja (Iv p1) (Gc p1))
        have : (g0.length - 1) + ((pP l).length - 1) < f.length := by
          apply Nat.lt_of_not_le
          intro h
          rw [Dw h] at ht2
          exact hnz ht2.symm
        exact Dw (by lia)
    refine ⟨(pP l).map (t * ·), _, some (g0.map (c * ·)), ⟨Ke ht, by rw [List.length_map]; with_reducible exact Nat.le_trans ‹_› (by decide), by with_reducible exact Nat.le_trans ‹_› (by decide), Fm (tS_le ht) _, by rw [hdv, hex], ?_, ?_, hbest, hgcd⟩⟩
    · unfold Dx
      have e1 : decide ((l : Int) < 10) = true := by simp only [decide_eq_true_eq]; lia
      have e2 : (k == 0) = false := by simpa using hk0
      rw [e1, e2]
      simp only [hf.1, Option.isSome_some, Bool.true_and, Bool.false_or, beq_self_eq_true]
      symm
      rcases hf.2 with h | h | h
      · simp [h]
      · simp [h]
      · simp [h]
    · intro r hr
      cases hr
      obtain ⟨r2, e2, t2, c2⟩ := Ic (a := g0.map (c * ·)) (b := (pP l).map (t * ·)) (by rw [List.length_map (as := pP l)]; with_reducible exact Nat.le_trans (by repeat' first | assumption | apply Nat.add_le_add | exact Nat.le_refl _) (by decide)) (fun x _ => Ia hw x)
      rw [e2]
      congr 1
      exact eq_of_co t2 hat (fun n => by rw [c2, hcv])
  · rcases ex_sound hat hwt hwn (by rw [List.length_map]; with_reducible exact Nat.lt_of_le_of_lt ‹_› (by decide)) (by rw [List.length_map]; with_reducible exact Nat.le_trans ‹_› (by decide)) (Ia hw) with h2 | ⟨q, h2, h3, h4⟩
    · refine ⟨(pP l).map (t * ·), _, none, ⟨Ke ht, by rw [List.length_map]; with_reducible exact Nat.le_trans ‹_› (by decide), by with_reducible exact Nat.le_trans ‹_› (by decide), Fm (tS_le ht) _, by rw [hdv, h2], ?_, (fun r hr => by cases hr), hbest, hgcd⟩⟩
      unfold Dx
      have e2 : (k == 0) = false := by simpa using hk0
      rw [e2]
      simp only [Option.isSome_none, Bool.false_or]
      symm
      by_cases h : k.fmod t = 0
      · have a : ¬ (l = 0 ∨ l = i ∨ l = j) := fun h' => hf ⟨h, h'⟩
        have a1 : ((l : Int) == 0) = false := by simp; lia
        have a2 : ((l : Int) == i) = false := by simp; lia
        have a3 : ((l : Int) == j) = false := by simp; lia
        simp [a1, a2, a3]
      · simp [h]
    · exact (no_quot D hk hk0 ht hl hf h4).elim
theorem pP10 : pP 10 = [] := rfl
theorem div_ok (D : Dat i j e f want) {k t : Int} (hk : k ∈ kS) (ht : t ∈ tS) {l : Nat} (hl : l < 11) :
    ∃ w best q, DivOk (aOf k f) k l t i j (pP l) w best q := by
  have hLI : LIM = 1048576 := rfl
  have hle := D.le
  by_cases hk0 : k = 0
  · subst hk0
    have ha : aOf 0 f = [] := rfl
    rw [ha]
    by_cases hl10 : l = 10
    · subst hl10
      have hb := Kd hk ht [] [] 10 i j
      exact ⟨[], [], none, Ke ht, by simp, by rw [pP10]; simp, Fm (tS_le ht) _, rfl, by simp [Dx], (fun r hr => by cases hr), (by rw [pP10]; simpa using hb), rfl⟩
    · have hl' : l < 10 := by with_reducible exact (ZD ‹_› ‹_›)
      obtain ⟨p1, p2, p3, p4, p5⟩ := pP_ok l hl'
      have hwn : (pP l).map (t * ·) ≠ [] := by simpa using Gc p1
      have hb := Kd hk ht [] (pP l) l i j
      rw [if_neg (by exact mt Int.ofNat_inj.mp ‹_›), if_pos (.inl rfl)] at hb
      refine ⟨(pP l).map (t * ·), _, some [], ⟨Ke ht, by simp, by with_reducible exact Nat.le_trans ‹_› (by decide), Fm (tS_le ht) _, ?_, ?_, ?_, hb, ?_⟩⟩
      · unfold En; rw [if_neg hwn, if_pos rfl]
      · have e1 : decide ((l : Int) < 10) = true := by simp only [decide_eq_true_eq]; lia
        simp [Dx, e1]
      · intro r hr; cases hr; rfl
      · unfold gcdP
        rw [Ec (Ke ht) p1 (by with_reducible exact Nat.le_trans ‹_› (by decide)), show primitive [] = some [] from rfl]
        simp only
        rw [p5]
        simp only
        have hp := Ec (k := 1) (by decide) p1 (by with_reducible exact Nat.le_trans ‹_› (by decide))
        rw [map_one] at hp
        rw [if_neg (Gc p1), hp]
        simp only
        rw [if_neg (by lia), Fd (Ke ht) p1, show content [] = 0 from rfl, Fm (gcd_lt hk ht)]
  · have ha : aOf k f = f.map (k * ·) := by unfold aOf; rw [if_neg hk0]
    rw [ha]
    by_cases hl10 : l = 10
    · subst hl10
      have hb := Kd hk ht (f.map (k * ·)) [] 10 i j
      rw [if_pos rfl] at hb
      refine ⟨[], _, none, ⟨Ke ht, by rw [List.length_map]; with_reducible exact Nat.le_trans ‹_› (by decide), by rw [pP10]; simp, Fm (tS_le ht) _, rfl, by simp [Dx], (fun r hr => by cases hr), (by rw [pP10]; exact hb), ?_⟩⟩
      unfold gcdP
      rw [Ec hk0 D.pr (by with_reducible exact Nat.le_trans ‹_› (by decide)), show primitive [] = some [] from rfl]
      simp only
      rw [show Hq ([] : List Int).length.succ.succ f [] = some f from by simp [Hq]]
      simp only
      have hp := Ec (k := 1) (by decide) D.pr (by with_reducible exact Nat.le_trans ‹_› (by decide))
      rw [map_one] at hp
      rw [if_neg (Gc D.pr), hp]
      simp only
      have hk4 := kS_le hk
      rw [if_neg (by lia), Fd hk0 D.pr, show content [] = 0 from rfl, Int.gcd_zero_right, Fm (by rw [Int.natAbs_natCast]; with_reducible exact Nat.lt_of_le_of_lt ‹_› (by decide))]
      congr 1
      by_cases hneg : k < 0
      · rw [if_pos hneg, List.map_map]
        refine List.map_congr_left (fun c _ => ?_)
        show (k.natAbs : Int) * c = -(k * c)
        rw [← Int.neg_mul]; congr 1; lia
      · rw [if_neg hneg]
        refine List.map_congr_left (fun c _ => ?_)
        rw [show (k.natAbs : Int) = k by exact YD ‹_›]
    · exact div_a D hk hk0 ht (by with_reducible exact (ZD ‹_› ‹_›))
end
end Mine
end
section
open PySem
namespace Mine
set_option tactic.hygienic false
set_option autoImplicit false
set_option tactic.hygienic true in
theorem Ir {x : Int} {b : Nat} (h : x.natAbs ≤ 2 ^ b) : Builtin.Int.intBits x ≤ b + 1 := by
  unfold Builtin.Int.intBits
  split
  · exact Nat.zero_le _
  · rename_i h0
    have hne : x.natAbs ≠ 0 := by
      intro e; apply h0; simp [Int.natAbs_eq_zero.mp e]
    have h1 : x.natAbs < 2 ^ (b + 1) := by
      have : 2 ^ b < 2 ^ (b + 1) := Nat.pow_lt_pow_right (by exact Nat.lt_succ_self _) (by exact Nat.lt_succ_self _)
      with_reducible exact Nat.lt_of_le_of_lt ‹_› ‹_›
    have := (Nat.log2_lt hne).mpr h1
    exact Nat.succ_le_of_lt ‹_›
set_option tactic.hygienic true in
theorem pow_bits (x : Int) : x.natAbs < 2 ^ Builtin.Int.intBits x := by
  unfold Builtin.Int.intBits
  split
  · rename_i h0; have : x = 0 := by simpa using h0
    subst this; decide
  · rename_i h0
    have hne : x.natAbs ≠ 0 := by
      intro e; apply h0; simp [Int.natAbs_eq_zero.mp e]
    exact Nat.lt_log2_self
theorem mulOk_sum {x y : Int} (h : Builtin.Int.intBits x + Builtin.Int.intBits y ≤ 134217728) : Bd x y = true := by
  unfold Bd Builtin.Int.intTooBig
  have : decide (((Builtin.Int.intBits x : Int) + (Builtin.Int.intBits y : Int)) > (bitsLine : Int)) = false := by
    simp only [decide_eq_false_iff_not]
    have : (bitsLine : Int) = 134217728 := by decide
    lia
  rw [this]; simp
theorem two_le {p q r : Nat} (h1 : p < r) (h2 : q < r) : 2 ^ p + 2 ^ q ≤ 2 ^ r := by
  have a1 : 2 ^ p ≤ 2 ^ (r - 1) := Nat.pow_le_pow_right (by exact Nat.succ_pos _) (by exact Nat.le_sub_one_of_lt ‹_›)
  have a2 : 2 ^ q ≤ 2 ^ (r - 1) := Nat.pow_le_pow_right (by exact Nat.succ_pos _) (by exact Nat.le_sub_one_of_lt ‹_›)
  have a3 : 2 ^ r = 2 ^ (r - 1) * 2 := by rw [← Nat.pow_succ]; congr 1; lia
  lia
theorem abs_step {t x c : Int} {p b q : Nat} (ht : t.natAbs ≤ 2 ^ p) (hx : x.natAbs ≤ 2 ^ b) (hc : c.natAbs ≤ 2 ^ q) : (t * x + c).natAbs ≤ 2 ^ (p + b + q + 1) := by
  have h1 : (t * x).natAbs ≤ 2 ^ (p + b) := by rw [Int.natAbs_mul, Nat.pow_add]; exact Nat.mul_le_mul ht hx
  have h2 := Int.natAbs_add_le (t * x) c
  have h3 := two_le (p := p + b) (q := q) (r := p + b + q + 1) (by lia) (by lia)
  lia
theorem val_run {x : Int} {b q : Nat} (hx : x.natAbs ≤ 2 ^ b) : ∀ (l : List Int) (t : Int) (i : Nat), (∀ c ∈ l, c.natAbs ≤ 2 ^ q) → t.natAbs ≤ 2 ^ (i * (b + q + 1)) → (i + l.length) * (b + q + 1) + b + 2 ≤ 134217728 →
    valO x l t = some (l.foldl (fun t c => t * x + c) t)
  | [], t, i, _, _, _ => rfl
  | c :: l, t, i, hc, ht, hb => by
    have h1 : (i + 1 + l.length) * (b + q + 1) = (i + (c :: l).length) * (b + q + 1) := by rw [List.length_cons]; congr 1; lia
    have h2 : i * (b + q + 1) ≤ (i + (c :: l).length) * (b + q + 1) := Nat.mul_le_mul_right _ (by exact Nat.le_add_right _ _)
    have hm : Bd t x = true := mulOk_sum (by have := Ir ht; have := Ir hx; lia)
    have h3 := abs_step ht hx (hc c (List.mem_cons_self ..))
    have h4 := val_run hx l (t * x + c) (i + 1) (fun c' hc' => hc c' (List.mem_cons_of_mem _ hc')) (by
      rw [show (i + 1) * (b + q + 1) = i * (b + q + 1) + b + q + 1 by rw [Nat.add_mul, Nat.one_mul]; lia]; exact h3) (by lia)
    simp only [valO, hm, if_true, h4, List.foldl_cons]
theorem evH_fold (a : List Int) (x : Int) : a.reverse.foldl (fun t c => t * x + c) 0 = ev a x := by
  rw [List.foldl_reverse, ← evH_eq]
  unfold evH
  congr 1
  funext c t
  rw [Int.mul_comm, Int.add_comm]
theorem value_eq {a : List Int} {x : Int} {b q : Nat} (hx : x.natAbs ≤ 2 ^ b) (ha : ∀ c ∈ a, c.natAbs ≤ 2 ^ q) (hb : a.length * (b + q + 1) + b + 2 ≤ 134217728) : value a x = some (ev a x) := by
  unfold value
  rw [val_run hx a.reverse 0 0 (fun c hc => ha c (List.mem_reverse.mp hc)) (by simp) (by rw [List.length_reverse]; simpa using hb), evH_fold]
theorem ev_abs {x : Int} {b q : Nat} (hx : x.natAbs ≤ 2 ^ b) : ∀ (a : List Int), (∀ c ∈ a, c.natAbs ≤ 2 ^ q) → (ev a x).natAbs ≤ 2 ^ (a.length * (b + q + 1))
  | [], _ => by simp [ev, sm]
  | c :: l, hc => by
    have ih := ev_abs hx l (fun c' hc' => hc c' (List.mem_cons_of_mem _ hc'))
    have h1 : ev (c :: l) x = ev l x * x + c := by
      rw [← evH_eq, ← evH_eq]; show c + x * evH l x = _; rw [Int.mul_comm, Int.add_comm]
    rw [h1]
    have := abs_step ih hx (hc c (List.mem_cons_self ..))
    rw [List.length_cons, show (l.length + 1) * (b + q + 1) = l.length * (b + q + 1) + b + q + 1 by rw [Nat.add_mul, Nat.one_mul]; lia]
    exact this
theorem sum_sm (h : Nat → Int) : ∀ N, (((List.range N).map h)).sum = sm h N
  | 0 => rfl
  | N + 1 => by rw [List.range_succ, List.map_append, List.sum_append, sum_sm h N]; simp [sm]
theorem at_eq {f : List Int} {x : Int} (hl : f.length ≤ 3) (hf : sm64 f = true) (hx : Builtin.Int.intBits x ≤ 2000000) : atO f x = some (ev f x) := by
  have hLI : LIM = 1048576 := rfl
  unfold atO
  rw [if_neg]
  · congr 1
    rw [sumI_eq, sum_sm]
    rfl
  · rintro (h | h)
    · lia
    · have : ((List.range f.length).all fun n => decide ((Builtin.Int.intBits x : Int) * (n : Int) ≤ 2 ^ 27) && Bd (f.getD n 0) (x ^ n)) = true := by
        refine List.all_eq_true.mpr fun n hn => ?_
        have hn' := List.mem_range.mp hn
        have h1 : Bd (f.getD n 0) (x ^ n) = true := sm64_ok' hf _ _ (by
          rw [List.getD_eq_getElem?_getD, List.getElem?_eq_getElem hn']; exact List.getElem_mem _)
        rw [h1, Bool.and_true, decide_eq_true_eq]
        have h2 : (Builtin.Int.intBits x : Int) * (n : Int) ≤ 2000000 * 3 := Int.mul_le_mul (by lia) (by lia) (by exact Int.natCast_nonneg _) (by decide)
        lia
      rw [this] at h; cases h
theorem ev_conv {f g : List Int} (hf : f ≠ []) (hg : g ≠ []) (x : Int) : ev (conv f g) x = ev f x * ev g x := ev_mul (co_conv hf hg) x
theorem ev_powC {v : List Int} (hv : v ≠ []) (x : Int) : ∀ (n : Nat) (u : List Int), u ≠ [] → ev (powC v n u) x = ev u x * ev v x ^ n
  | 0, u, _ => by simp [powC]
  | n + 1, u, hu => by
    simp only [powC]
    rw [ev_powC hv x n _ (conv_ne hu hv), ev_conv hu hv, Int.pow_succ, Int.mul_assoc, Int.mul_comm (ev v x)]
theorem ev_nil (x : Int) : ev [] x = 0 := rfl
set_option tactic.hygienic true in
theorem Dat.evA {i j e : Nat} {f : List Int} {want : List (List Int × Int)} (D : Dat i j e f want) (hi : i < 10) (hj : j < 10) (k x : Int) : ev (aOf k f) x = k * ev (pP i) x * ev (pP j) x ^ e := by
  have h1 : ev f x = ev (pP i) x * ev (pP j) x ^ e := by
    rw [D.ff]; exact ev_powC (Gc (pP_ok j hj).1) x e _ (Gc (pP_ok i hi).1)
  unfold aOf
  split
  · rename_i h; rw [h, ev_nil]; simp
  · rw [ev_scale, h1, Int.mul_assoc]
theorem ev_lin (n x : Int) : ev [-n, 1] x = x - n := by
  rw [← evH_eq]; unfold evH; simp; lia
end Mine
end
section
open PySem
namespace Mine
set_option tactic.hygienic false
set_option autoImplicit false
theorem small64 {a : List Int} (h : ∀ c ∈ a, c.natAbs ≤ 1100) : sm64 a = true := List.all_eq_true.mpr fun c hc => by
  simp only [decide_eq_true_eq]
  have := h c hc
  with_reducible exact Nat.lt_of_le_of_lt ‹_› (by decide)
section
variable {i j e : Nat} {f : List Int} {want : List (List Int × Int)}
inductive MulN (a : List Int) (n : Int) (b : Nat) : Prop where
  | mk (more : List Int) (h1 : multiply a [-n, 1] = some more) (h2 : En more [-n, 1] = some (some a)) (h3 : more.length ≤ 21) (h4 : ∀ c ∈ more, c.natAbs ≤ 2 ^ (b + 12)) (h5 : ∀ x, ev more x = ev a x * (x - n))
theorem mul_n (D : Dat i j e f want) {k : Int} (hk : k ∈ kS) {n : Int} {b : Nat} (hn : n.natAbs ≤ 2 ^ b) : MulN (aOf k f) n b := by
  have hLI : LIM = 1048576 := rfl
  have hlen := D.len k
  have hsm := D.small (kS_le hk)
  have h64 := small64 hsm
  obtain ⟨more, e1, t1, c1⟩ := Ic (a := aOf k f) (b := [-n, 1]) (by simp only [List.length_cons, List.length_nil]; with_reducible exact Nat.le_trans (by repeat' first | assumption | apply Nat.add_le_add | exact Nat.le_refl _) (by decide)) (fun x hx y _ => sm64_ok' h64 y x hx)
  have hwt : Ax [-n, 1] := by intro x hx; simp only [List.getLast?_cons_cons, List.getLast?_singleton, Option.some.injEq] at hx; lia
  have hml : more.length ≤ 21 := len_le_co t1 (fun m hm => by
    rw [c1]; exact cv_hi (d := 19) (m := 1) (fun k hk => Dw (by lia)) (fun k hk => Dw (by simp only [List.length_cons, List.length_nil]; exact Nat.succ_le_of_lt ‹_›)) (by exact Nat.lt_of_succ_le ‹_›))
  refine ⟨more, e1, ?_, hml, ?_, fun x => by rw [ev_mul c1, ev_lin]⟩
  · unfold En
    rw [if_neg (by simp)]
    by_cases h : more = []
    · rw [if_pos h]
      congr 2
      by_cases ha : aOf k f = []
      · exact ha.symm
      · exfalso
        have hap : 0 < (aOf k f).length := List.length_pos_iff.mpr ha
        have ht := c1 (((aOf k f).length - 1) + 1)
        rw [cv_top (fun k hk => Dw (by lia)) (fun k hk => Dw (by simp only [List.length_cons, List.length_nil]; exact Nat.succ_le_of_lt ‹_›)), h, Dw (by simp), show co [-n, 1] 1 = 1 from rfl, Int.mul_one] at ht
        exact Ja (D.tr k) ha ht.symm
    · rw [if_neg h]
      exact ex_complete t1 hwt (by simp) (D.tr k) (by with_reducible exact Nat.lt_of_le_of_lt ‹_› (by decide)) (by simp only [List.length_cons, List.length_nil]; with_reducible exact Nat.le_trans (by repeat' first | assumption | apply Nat.add_le_add | exact Nat.le_refl _) (by decide)) (fun c hc y _ => sm64_ok' h64 y c hc) (fun y _ => Ix (by decide)) c1
  · intro c hc
    obtain ⟨m, hm, e2⟩ := List.getElem_of_mem hc
    rw [← e2, ← Ge hm, c1]
    have hco : ∀ m, (co (aOf k f) m).natAbs ≤ 2 ^ 11 := by
      intro m
      by_cases h : m < (aOf k f).length
      · rw [Ge h]; have := hsm _ (List.getElem_mem h); with_reducible exact Nat.le_trans ‹_› (by decide)
      · rw [Dw (by exact Nat.le_of_not_lt ‹_›)]; simp
    have hcv : cv (co (aOf k f)) (co [-n, 1]) m = (if m = 0 then 0 else co (aOf k f) (m - 1)) + co (aOf k f) m * (-n) := by
      unfold cv
      cases m with
      | zero => simp [sm, co]
      | succ m =>
        simp only [sm]
        rw [Fz m (fun k hk => by rw [Dw (a := [-n, 1]) (by simp only [List.length_cons, List.length_nil]; lia)]; simp)]
        rw [if_neg (by lia), show m + 1 - m = 1 by lia, show m + 1 - (m + 1) = 0 by lia, show co [-n, 1] 1 = 1 from rfl, show co [-n, 1] 0 = -n from rfl, Int.mul_one, Int.zero_add]; rfl
    rw [hcv, Int.add_comm]
    have h1 : (co (aOf k f) m * -n).natAbs ≤ 2 ^ (11 + b) := by
      rw [Int.natAbs_mul, Int.natAbs_neg, Nat.pow_add]; exact Nat.mul_le_mul (hco m) hn
    have h2 : (if m = 0 then 0 else co (aOf k f) (m - 1)).natAbs ≤ 2 ^ 11 := by
      split
      · simp
      · exact hco _
    have h3 := Int.natAbs_add_le (co (aOf k f) m * -n) (if m = 0 then 0 else co (aOf k f) (m - 1))
    have h4 := two_le (p := 11 + b) (q := 11) (r := b + 12) (by lia) (by lia)
    lia
theorem toN (x : Int) {m : Int} (M : Nat) (hm : m = (M : Int)) (h0 : 0 < M) : ∃ n : Nat, x.fmod m = n ∧ n < M := by
  subst hm
  have h1 := Int.fmod_nonneg_of_pos x (Int.ofNat_lt.mpr h0)
  have h2 := Int.fmod_lt_of_pos x (Int.ofNat_lt.mpr h0)
  obtain ⟨n, hn⟩ := Int.eq_ofNat_of_zero_le h1
  rw [hn] at h2
  exact ⟨n, hn, Int.ofNat_lt.mp h2⟩
theorem kS_mem (x : Int) : x.fmod 9 - 4 ∈ kS := by
  obtain ⟨n, e, h⟩ := toN x (m := 9) 9 rfl (by decide)
  have : ∀ n : Nat, n < 9 → (n : Int) - 4 ∈ kS := by decide
  rw [e]; exact this n h
theorem tS_mem (x : Int) : tOf (x.fmod 5) ∈ tS := by
  obtain ⟨n, e, h⟩ := toN x (m := 5) 5 rfl (by decide)
  have : ∀ n : Nat, n < 5 → tOf (n : Int) ∈ tS := by decide
  rw [e]; exact this n h
theorem strRep_sp (n : Nat) : strRep 32 (n : Int) = sp n := by
  unfold strRep sp
  rw [Int.toNat_natCast]
  induction n with
  | zero => rfl
  | succ n ih => rw [List.replicate_succ, List.flatten_cons, ih]; rfl
theorem PP_get : ∀ l, l < 11 → PP[l]? = some (pP l) := by decide +kernel
theorem e_mem : ∀ e', e' < 3 → 1 + e' ∈ [1, 2, 3] := by decide
theorem pP_le : ∀ l, l < 10 → ∀ c ∈ pP l, c.natAbs ≤ 2 ^ 2 := by decide +kernel
theorem big1 {m b : Nat} (h1 : m ≤ 21) (h2 : b ≤ 1048576) : m * (b + (b + 12) + 1) + b + 2 ≤ 134217728 := by
  have : m * (b + (b + 12) + 1) ≤ 21 * (1048576 + (1048576 + 12) + 1) := Nat.mul_le_mul h1 (by with_reducible exact Nat.le_trans (by repeat' first | assumption | apply Nat.add_le_add | exact Nat.le_refl _) (by decide))
  with_reducible exact Nat.le_trans (by repeat' first | assumption | apply Nat.add_le_add | exact Nat.le_refl _) (by decide)
theorem getD_some_l {l : List (List Nat)} {n : Nat} (h : n < l.length) : l[n]? = some (l.getD n []) := by
  rw [List.getD_eq_getElem?_getD, List.getElem?_eq_getElem h]; rfl
theorem law_ok {G : Str → Option AV} (hG1 : G (Str.ofString "_law_PARTS") = some (.tup (PP.map fun p => .tup (p.map .int)))) (hG2 : G (Str.ofString "_law_BAD") = some (.tup (BADS.map .str)))
    (s : List Int) (hs : 15 ≤ s.length) (hb : ∀ x ∈ s, Builtin.Int.intBits x ≤ 1048576) {P : Prop} (kP : ∀ u v a0 a more want x y val, LawOk (runG G fs1 (0 + 6)) PP s u v a0 a more want x y val → P) : P := by
  have hLI : LIM = 1048576 := rfl
  obtain ⟨i, ei, hi⟩ := toN (s.getD 0 0) (m := 10) 10 rfl (by decide)
  obtain ⟨j, ej, hj⟩ := toN (s.getD 1 0) (m := 7) 7 rfl (by decide)
  obtain ⟨e', ee, he⟩ := toN (s.getD 2 0) (m := 3) 3 rfl (by decide)
  obtain ⟨g, eg, hg⟩ := toN (s.getD 4 0) (m := 3) 3 rfl (by decide)
  obtain ⟨z, ez, hz⟩ := toN (s.getD 5 0) (m := 2) 2 rfl (by decide)
  obtain ⟨mm, em, hm⟩ := toN (s.getD 6 0) (m := 7) 7 rfl (by decide)
  obtain ⟨h, eh, hh⟩ := toN (s.getD 7 0) (m := 12) 12 rfl (by decide)
  obtain ⟨bi, eb, hbi⟩ := toN (s.getD 9 0) (m := 12) 12 rfl (by decide)
  obtain ⟨l, el, hl⟩ := toN (s.getD 12 0) (m := 11) 11 rfl (by decide)
  have hj' : j < 10 := Nat.lt_of_lt_of_le hj (by decide)
  have hk := kS_mem (s.getD 3 0)
  have ht := tS_mem (s.getD 13 0)
  generalize hkk : (s.getD 3 0).fmod 9 - 4 = k at *
  generalize htt : tOf ((s.getD 13 0).fmod 5) = t at *
  have hee : (1 : Int) + e' = ((1 + e' : Nat) : Int) := by rw [Int.natCast_add]; rfl
  have he1 : 1 + e' ≤ 3 := by rw [Nat.add_comm]; exact he
  obtain ⟨f, want, D⟩ := dat i j (1 + e') hi hj (e_mem e' he)
  have hn : Builtin.Int.intBits (s.getD 14 0) ≤ 1048576 := hb _ (by
    rw [List.getD_eq_getElem?_getD, List.getElem?_eq_getElem (Nat.lt_of_lt_of_le (by decide : 14 < 15) hs)]; exact List.getElem_mem _)
  generalize hnn : s.getD 14 0 = n at *
  have hn1 : n.natAbs ≤ 2 ^ Builtin.Int.intBits n := Nat.le_of_lt (pow_bits n)
  have hx1 : (n + 1).natAbs ≤ 2 ^ (Builtin.Int.intBits n) := Nat.le_trans (Int.natAbs_add_le n 1) (pow_bits n)
  generalize Builtin.Int.intBits n = b at *
  have hxb := Ir hx1
  obtain ⟨more, m1, m2, m3, m4, m5⟩ := mul_n D hk hn1
  have pi := pP_ok i hi
  have pj := pP_ok j hj'
  have hb3 : b + 2 + 1 ≤ 1048579 := Nat.add_le_add_right hn 3
  have hval := value_eq (a := more) hx1 m4 (big1 m3 hn)
  have hX := ev_abs hx1 (pP i) (pP_le i hi)
  have hY := ev_abs hx1 (pP j) (pP_le j hj')
  have hXl : (pP i).length * (b + 2 + 1) ≤ 3145737 := Nat.mul_le_mul pi.2.2.1 hb3
  have hYl : (pP j).length * (b + 2 + 1) ≤ 3145737 := Nat.mul_le_mul pj.2.2.1 hb3
  have bY := Ir hY
  have hkX : (k * ev (pP i) (n + 1)).natAbs ≤ 2 ^ (2 + (pP i).length * (b + 2 + 1)) := by
    rw [Int.natAbs_mul, Nat.pow_add]; exact Nat.mul_le_mul (kS_le hk) hX
  have hYe : (ev (pP j) (n + 1) ^ (1 + e')).natAbs ≤ 2 ^ ((pP j).length * (b + 2 + 1) * (1 + e')) := by
    rw [Int.natAbs_pow, Nat.pow_mul]; exact Nat.pow_le_pow_left hY _
  have hYel : (pP j).length * (b + 2 + 1) * (1 + e') ≤ 9437211 := Nat.mul_le_mul hYl he1
  have bX := Ir hkX
  have bYe := Ir hYe
  have hxb' : Builtin.Int.intBits (n + 1) ≤ 2000000 := Nat.le_trans hxb (Nat.le_trans (Nat.add_le_add_right hn 1) (by decide))
  obtain ⟨w, best, q, dok⟩ := div_ok D hk ht (l := l) hl
  have hbl : bi < BADS.length := hbi
  have hbq : ((i : Int) == (j : Int)) = (i == j) := by
    by_cases q : i = j
    · simp [q]
    · have q1 : ¬ (i : Int) = (j : Int) := fun e => q (Int.ofNat.inj e)
      rw [beq_eq_false_iff_ne.mpr q1, beq_eq_false_iff_ne.mpr q]
  refine kP (pP i) (pP j) (f.map (k * ·)) (aOf k f) more want (ev (pP i) (n + 1)) (ev (pP j) (n + 1)) (ev more (n + 1)) ⟨hs, ?_, ?_, ?_, ?_, ?_, ?_, ?_, ?_, ?_, ?_, ?_, ?_, ?_, ?_, ?_, ?_⟩
  · rw [ei]; exact PP_get i (Nat.lt_of_lt_of_le hi (by decide))
  · rw [ej]; exact PP_get j (Nat.lt_of_lt_of_le hj (by decide))
  · have := Jb k [1, 2, 3, 4] [1] [] f want D.sp D.bl
    rw [ei, ej, ee, hkk, hee, hbq]
    simpa [prs] using this
  · rw [hkk]; rfl
  · rw [eg, ez, em, eh, eb, strRep_sp]
    refine S26 (G := G) 0 hG2 (b := BADS.getD bi []) (getD_some_l hbl) (texts_ok ?_ (Nat.le_trans (Nat.le_of_lt hg) (by decide)) ?_ (D.tr k) ⟨D.small (kS_le hk), Nat.le_trans (D.len k) (by decide), by lia, Int.natCast_nonneg _, Int.ofNat_le.mpr (Nat.le_trans (Nat.le_of_lt hh) (by decide))⟩)
    · match z, hz with
      | 0, _ => exact .inl rfl
      | 1, _ => exact .inr rfl
    · rw [List.getD_eq_getElem?_getD, List.getElem?_eq_getElem hbl]; exact List.getElem_mem _
  · rw [hkk]; exact S27 (G := G) 0 (apart_ok D (kS_le hk))
  · rw [hkk, el, htt, ei, ej]
    refine S28 (G := G) 1 hG1 (pv := .tup ((pP l).map .int)) ?_ (.inr rfl) dok
    simp only [Ay, Bh, List.getElem?_map, PP_get l hl, Option.map_some]
  · rw [hnn]; exact m1
  · rw [hnn]; exact hval
  · rw [hnn]; exact at_eq pi.2.2.1 pi.2.1 hxb'
  · rw [hnn]; exact at_eq pj.2.2.1 pj.2.1 hxb'
  · rw [hkk]; exact Ix (bits_le (Nat.lt_of_le_of_lt (kS_le hk) (by decide)))
  · rw [ee, hee]
    refine ⟨Int.natCast_nonneg _, ?_⟩
    rw [← Int.natCast_mul]
    exact Int.ofNat_le.mpr (Nat.le_trans (Nat.mul_le_mul (Nat.le_trans bY (Nat.add_le_add_right hYl 1)) he1) (by decide))
  · rw [hkk, ee, hee, Int.toNat_natCast]
    exact mulOk_sum (Nat.le_trans (Nat.add_le_add bX bYe) (by with_reducible exact Nat.le_trans (by repeat' first | assumption | apply Nat.add_le_add | exact Nat.le_refl _) (by decide)))
  · rw [hkk, ee, hee, Int.toNat_natCast, m5, D.evA hi hj', show n + 1 - n = 1 by lia, Int.mul_one]
  · rw [hnn]; exact m2
theorem law_true {G : Str → Option AV} (hG1 : G (Str.ofString "_law_PARTS") = some (.tup (PP.map fun p => .tup (p.map .int)))) (hG2 : G (Str.ofString "_law_BAD") = some (.tup (BADS.map .str)))
    (s : List Int) (hb : ∀ x ∈ s, Builtin.Int.intBits x ≤ 1048576) : runG G fs1 7 29 [.ilist s] = some (.val (.bool true)) := by
  by_cases hs : 15 ≤ s.length
  · exact law_ok hG1 hG2 s hs hb fun _ _ _ _ _ _ _ _ _ ok => S29 (G := G) 0 hG1 ok
  · exact S29s (G := G) 6 s (by exact Nat.lt_of_not_le ‹_›)
end
end Mine
end
section
open PySem PySem.W PySem.Calls PyProof.Rows PySem.SeqAt
namespace Mine
set_option tactic.hygienic false
set_option autoImplicit false
theorem zip_lookup_some {ps : List Str} {vs : List Value} (hl : vs.length = ps.length) : ∀ n ∈ ps, ((ps.zip vs).lookup n).isNone = false := by
  induction ps generalizing vs with
  | nil => intro n h; cases h
  | cons p r ih =>
    intro n h
    cases vs with
    | nil => simp at hl
    | cons v vs =>
      simp only [List.zip_cons_cons, List.lookup_cons]
      by_cases e : n == p
      · simp [e]
      · simp only [e]
        rcases List.mem_cons.mp h with q | q
        · subst q; simp at e
        · exact ih (by simpa using hl) n q
theorem fm_congr {α β : Type} {f g : α → Option β} : ∀ {l : List α}, (∀ x ∈ l, f x = g x) → l.filterMap f = l.filterMap g
  | [], _ => rfl
  | x :: r, h => by
    rw [List.filterMap_cons, List.filterMap_cons, h x (List.mem_cons_self ..), fm_congr (fun y hy => h y (List.mem_cons_of_mem _ hy))]
theorem zip_binds {ps : List Str} {vs : List Value} (hl : vs.length = ps.length) (hn : ps.Nodup) : ps.filterMap (fun n => ((ps.zip vs).lookup n).map (n, ·)) = ps.zip vs := by
  induction ps generalizing vs with
  | nil => rfl
  | cons p r ih =>
    cases vs with
    | nil => simp at hl
    | cons v vs =>
      have h1 := List.nodup_cons.mp hn
      simp only [List.zip_cons_cons, List.filterMap_cons, List.lookup_cons, beq_self_eq_true, Option.map_some]
      congr 1
      conv => rhs; rw [← ih (by simpa using hl) h1.2]
      refine fm_congr (fun n hnr => ?_)
      have : (n == p) = false := by rw [beq_eq_false_iff_ne]; intro e; subst e; exact h1.1 hnr
      rw [this]
theorem bind_plain {name : Str} {a : Arguments} {body : List Stmt} {sc : Scope} {pm code doc : Value} (h1 : a.posonlyargs = []) (h2 : a.vararg = none) (h3 : a.kwonlyargs = []) (h4 : a.kwarg = none)
    (hn : (a.args.map (·.arg)).Nodup) (vs : List Value) (hl : vs.length = (a.args.map (·.arg)).length) : bindArgs (docDef name a body sc pm code doc) ⟨vs, []⟩ = pure ((a.args.map (·.arg)).zip vs) := by
  have hm := zip_lookup_some hl
  have hb := zip_binds hl hn
  have pb : ∀ {α β : Type} (x : α) (f : α → Sem β), (pure x >>= f) = f x := fun _ _ => rfl
  have hs : seqItems? Value.none = pure none := rfl
  have hmiss : ((a.args.map (·.arg)).take (a.args.map (·.arg)).length).filter (fun n => (((a.args.map (·.arg)).zip vs).lookup n).isNone) = [] := by
    rw [List.filter_eq_nil_iff]
    intro n h
    rw [hm n (List.mem_of_mem_take h)]; simp
  have hgt : ¬ (vs.length > (a.args.map (·.arg)).length) := by lia
  unfold bindArgs docDef
  simp only [h1, h2, h3, h4, List.map_nil, List.nil_append, List.append_nil, List.forIn_nil, pb, hs, Option.getD_none, List.length_nil, Nat.zero_sub, Nat.sub_zero, List.drop_nil, List.zip_nil_right, hmiss, hgt, decide_false, Bool.false_and, Bool.false_eq_true, if_false, List.isEmpty_nil, Bool.not_true, hb]
mutual
noncomputable def avW : WData → Option AV
  | .none => some .none
  | .bool b => some (.bool b)
  | .int i => some (.int i)
  | .str x => if x.cps.size ≤ LIM then some (.str x.cps.toList) else none
  | .tuple xs => (avWs xs).bind fun l => if l.length ≤ LIM then some (.tup l) else none
  | _ => none
noncomputable def avWs : List WData → Option (List AV)
  | [] => some []
  | x :: r => (avW x).bind fun a => (avWs r).map fun l => a :: l
end
theorem tup_inv {R : WRecords} {cl : Str → Option Addr} {h : Heap} {v : Value} {xs : List WData} {as : List Addr} (r : ReadsW R cl h v (.tuple xs) as) : ∃ a vs, v = .ref a ∧ h.IsTuple a vs.toArray ∧ ReadsAllW R cl h vs xs as := by
  cases r with
  | tuple h1 h2 h3 h4 => exact ⟨_, _, rfl, ⟨_, h1, h2, _, by simpa using h3⟩, h4⟩
mutual
theorem den_w {c : Cx} {R : WRecords} {cl : Str → Option Addr} {h : Heap} : ∀ (d : WData) (av : AV) (v : Value) (as : List Addr), ReadsW R cl h v d as → avW d = some av → DenT c h (fun _ => False) av v
  | .none, av, v, as, r, e => by
    obtain rfl := Option.some.inj e; obtain ⟨rfl, _⟩ := readsW_none_inv r; simp only [DenT]
  | .bool b, av, v, as, r, e => by
    obtain rfl := Option.some.inj e; obtain ⟨rfl, _⟩ := readsW_bool_inv r; simp only [DenT]
  | .int i, av, v, as, r, e => by
    obtain rfl := Option.some.inj e; obtain ⟨t, rfl, _⟩ := readsW_int_inv r; simp only [DenT]; exact ⟨_, rfl⟩
  | .str x, av, v, as, r, e => by
    have e : (if x.cps.size ≤ LIM then some (AV.str x.cps.toList) else none) = some av := e
    by_cases hl : x.cps.size ≤ LIM
    · rw [if_pos hl] at e
      obtain rfl := Option.some.inj e; obtain ⟨t, rfl, _⟩ := readsW_str_inv r
      simp only [DenT]
      exact ⟨hl, _, rfl⟩
    · rw [if_neg hl] at e; exact nomatch e
  | .tuple xs, av, v, as, r, e => by
    obtain ⟨l, hx, e⟩ := Option.bind_eq_some_iff.mp (show (avWs xs).bind (fun l => if l.length ≤ LIM then some (AV.tup l) else none) = some av from e)
    by_cases hl : l.length ≤ LIM
    · rw [if_pos hl] at e
      obtain rfl := Option.some.inj e
      obtain ⟨a, vs, rfl, h1, h2⟩ := tup_inv r
      simp only [DenT]
      exact ⟨_, _, rfl, h1, hl, den_ws xs l _ _ h2 hx⟩
    · rw [if_neg hl] at e; exact nomatch e
  | .list xs, av, v, as, r, e => nomatch (show (none : Option AV) = some av from e)
  | .dict xs, av, v, as, r, e => nomatch (show (none : Option AV) = some av from e)
  | .float b, av, v, as, r, e => nomatch (show (none : Option AV) = some av from e)
  | .bytes b, av, v, as, r, e => nomatch (show (none : Option AV) = some av from e)
  | .bytearray b, av, v, as, r, e => nomatch (show (none : Option AV) = some av from e)
  | .set b, av, v, as, r, e => nomatch (show (none : Option AV) = some av from e)
  | .frozenset b, av, v, as, r, e => nomatch (show (none : Option AV) = some av from e)
  | .obj b c, av, v, as, r, e => nomatch (show (none : Option AV) = some av from e)
theorem den_ws {c : Cx} {R : WRecords} {cl : Str → Option Addr} {h : Heap} : ∀ (ds : List WData) (l : List AV) (vs : List Value) (as : List Addr), ReadsAllW R cl h vs ds as → avWs ds = some l → DenL c h (fun _ => False) l vs
  | [], l, vs, as, r, e => by
    obtain rfl := Option.some.inj e; obtain ⟨rfl, _⟩ := readsAllW_nil_inv r; simp only [DenL]
  | d :: ds, l, vs, as, r, e => by
    obtain ⟨a, hx, e⟩ := Option.bind_eq_some_iff.mp (show (avW d).bind (fun a => (avWs ds).map fun l => a :: l) = some l from e)
    obtain ⟨l', hy, rfl⟩ := Option.map_eq_some_iff.mp e
    cases r with
    | cons r1 r2 =>
      simp only [DenL]
      exact ⟨_, _, rfl, ⟨den_w d a _ _ r1 hx, fun _ _ q => q⟩, den_ws ds l' _ _ r2 hy⟩
end
theorem ints_of {R : WRecords} : ∀ {xs : List WData}, WShape.hasItems R xs .int = true → ∃ s : List Int, xs = s.map .int
  | [], _ => ⟨[], rfl⟩
  | d :: r, h => by
    simp only [WShape.hasItems, Bool.and_eq_true] at h
    obtain ⟨i, rfl⟩ := hasW_int h.1
    obtain ⟨s, rfl⟩ := ints_of h.2
    exact ⟨i :: s, rfl⟩
theorem args_of {R : WRecords} {args : List WData} (h : WShape.hasAll R args [.list .int] = true) : ∃ s : List Int, args = [.list (s.map .int)] := by
  obtain ⟨d, r, rfl, h1, h2⟩ := hasAllW_cons h
  obtain rfl := hasAllW_nil h2
  obtain ⟨xs, rfl, h3⟩ := hasW_list h1
  obtain ⟨s, rfl⟩ := ints_of h3
  exact ⟨s, rfl⟩
theorem weight_of : ∀ (s : List Int), s.length ≤ WData.weightAll (s.map .int) ∧ ∀ x ∈ s, Builtin.Int.intBits x ≤ WData.weightAll (s.map .int)
  | [] => ⟨by simp, fun _ h => by cases h⟩
  | x :: r => by
    obtain ⟨h1, h2⟩ := weight_of r
    simp only [List.map_cons, WData.weightAll, List.length_cons]
    refine ⟨by lia, fun y hy => ?_⟩
    rcases List.mem_cons.mp hy with e | e
    · subst e
      have : WData.weight (.int y) = Builtin.Int.intBits y := by simp only [WData.weight, Builtin.Int.intBits]
      lia
    · have := h2 y e; lia
theorem den_i {R : WRecords} {cl : Str → Option Addr} {h : Heap} : ∀ (s : List Int) (vs : List Value) (as : List Addr), ReadsAllW R cl h vs (s.map .int) as → DenI s vs
  | [], vs, as, r => (readsAllW_nil_inv r).1
  | x :: s, vs, as, r => by
    cases (show ReadsAllW R cl h vs (.int x :: s.map .int) as from r) with
    | cons r1 r2 => obtain ⟨t, rfl, _⟩ := readsW_int_inv r1; exact ⟨_, _, rfl, den_i s _ _ r2⟩
theorem den_script {c : Cx} {R : WRecords} {cl : Str → Option Addr} {h : Heap} {s : List Int} {vs : List Value} {as : List Addr} (r : ReadsAllW R cl h vs [.list (s.map .int)] as) (hl : s.length ≤ LIM) : DenL c h (fun _ => False) [.ilist s] vs := by
  cases r with
  | cons r1 r2 =>
    cases r2
    cases r1 with
    | list h1 h2 h3 h4 =>
      simp only [DenL, DenT]
      exact ⟨_, _, rfl, ⟨⟨_, _, rfl, ⟨_, h1, h2, _, by simpa using h3⟩, hl, den_i s _ _ h4⟩, fun _ _ q => q⟩, rfl⟩
theorem same_t : same (WData.bool true) (WData.bool true) = true := by first | decide +kernel | rfl | simp [same]
theorem post_t (l : OpenLaw) (args : List WData) : l.row.toRowW.claim.post args (.bool true) args = true := by
  show (WShape.has l.row.toRowW.records (.bool true) l.row.toRowW.returns && WTm.holds l.row.toRowW.records l.row.toRowW.post { args := args, res := some (.bool true), after := args }) = true
  rw [holdsW_of_value (X := true)]
  · simp [OpenLaw.row, WShape.has, WShape.arms]
  · simp [OpenLaw.row, WTm.value, same_t]
noncomputable def faOf (q : Program) (mg : Str → Option Value) (i : Nat) : Addr := match (recsOf q)[i]? with
  | some d => (match mg d.name with | some (.ref a) => a | _ => 0)
  | none => 0
noncomputable def freeOk (q : Program) (loose : List Str) (x : Str) : Bool :=
  !startupNames.contains x && !(looseW q loose).contains x && !((recsOf q).map (·.name)).contains x && !((litsOf q).map (·.1)).contains x && !((clssOf q (looseW q loose)).map (·.name)).contains x && x != "__name__"
noncomputable def gtOk (q : Program) (loose : List Str) (gt : List (Str × GK)) : Bool := gt.all fun e => match e.2 with
  | .fn i _ => (match (recsOf q)[i]? with | some d => d.name == e.1 | none => false)
  | .bi id => freeOk q loose e.1 && decide (bootBuiltins e.1 = some (.builtin id))
  | .ty n => freeOk q loose e.1 && decide (bootBuiltins e.1 = some (.type n))
  | .tab => true
noncomputable def plainDef (d : DefRec) : Bool := d.params.posonlyargs.isEmpty && d.params.vararg.isNone && d.params.kwonlyargs.isEmpty && d.params.kwarg.isNone && decide (d.params.args.map (·.arg)).Nodup && !d.scope.isGenerator && !d.scope.isCoroutine
noncomputable def cxOf (p : Program) (w : World) (h : Heap) (gt : List (Str × GK)) (GT : Str → Option AV) (q : Program) (mg : Str → Option Value) (fresh : Nat → Bool) : Cx :=
  { prog := p, w := w, hG := h, gt := gt, G := GT, F := fun _ _ => none, fa := faOf q mg, fresh := fresh }
section
variable {q : Program} {loose : List Str} {R : WRecords} {XP : (Str → Option Value) → Heap → Prop} {w : World} {s₀ : Shared} {mg mb : Str → Option Value} {h : Heap} {p : Program}
theorem free_of (G : Ground q loose R XP w s₀ mg mb h) {x : Str} (e : freeOk q loose x = true) : mg x = none ∧ mb x = bootBuiltins x := by
  unfold freeOk at e
  simp only [Bool.and_eq_true, Bool.not_eq_true', bne_iff_ne, ne_eq] at e
  obtain ⟨⟨⟨⟨⟨e1, e2⟩, e3⟩, e4⟩, e5⟩, e6⟩ := e
  have cv : ∀ {l : List Str}, l.contains x = false → x ∉ l := fun {l} q m => by rw [List.contains_iff_mem.mpr m] at q; cases q
  exact ⟨G.T.free x (cv e1) (cv e2) (cv e3) (cv e4) (cv e5), G.T.builtins x e6⟩
theorem cx_ok (G : Ground q loose R XP w s₀ mg mb h) {gt : List (Str × GK)} {GT : Str → Option AV} {fresh : Nat → Bool} (ht : p.given.tree = none) (hse : h.NoSeer) (chk : gtOk q loose gt = true)
    (htab : ∀ x, (x, GK.tab) ∈ gt → ∃ d av, (x, d) ∈ wlitsOf q ∧ avW d = some av ∧ GT x = some av) : (cxOf p w h gt GT q mg fresh).Ok where
  glob := fun x k hx => by
    have hm := Bk hx
    have hc := List.all_eq_true.mp chk _ hm
    cases k with
    | fn i b =>
      simp only at hc
      cases hd : (recsOf q)[i]? with
      | none => rw [hd] at hc; cases hc
      | some d =>
        rw [hd] at hc
        have hn : d.name = x := by simpa using hc
        obtain ⟨a, o, pm, code, doc, h1, h2, h3, h4⟩ := G.T.fn d (List.mem_of_getElem? hd)
        have hfa : faOf q mg i = a := by unfold faOf; rw [hd]; simp only; rw [h1]
        refine ⟨.ref a, ⟨mg, mb, G.T.g, G.T.b, .inl (by rw [← hn]; exact h1)⟩, ?_⟩
        exact ⟨by show _ = Value.ref (faOf q mg i); rw [hfa], o, _, by show h.get? (faOf q mg i) = _; rw [hfa]; exact h2, h3⟩
    | bi id =>
      simp only [Bool.and_eq_true, decide_eq_true_eq] at hc
      obtain ⟨f1, f2⟩ := free_of G hc.1
      exact ⟨.builtin id, ⟨mg, mb, G.T.g, G.T.b, .inr ⟨f1, by rw [f2]; exact hc.2⟩⟩, rfl⟩
    | ty n =>
      simp only [Bool.and_eq_true, decide_eq_true_eq] at hc
      obtain ⟨f1, f2⟩ := free_of G hc.1
      exact ⟨.type n, ⟨mg, mb, G.T.g, G.T.b, .inr ⟨f1, by rw [f2]; exact hc.2⟩⟩, rfl⟩
    | tab =>
      obtain ⟨d, av, h1, h2, h3⟩ := htab x hm
      obtain ⟨v, g1, g2⟩ := G.W.lits _ h1
      refine ⟨v, ⟨mg, mb, G.T.g, G.T.b, .inl g1⟩, fun av' e => ?_⟩
      have : av' = av := by
        have : GT x = some av' := e
        rw [h3] at this; exact (Option.some.inj this).symm
      subst this
      exact ⟨den_w d av' v [] g2 h2, fun _ _ z => z⟩
  nolimit := G.T.nolimit
  seer := hse
  tree := ht
  digits := G.T.nodigits
theorem cx_tab (G : Ground q loose R XP w s₀ mg mb h) {gt : List (Str × GK)} {GT : Str → Option AV} {fresh : Nat → Bool} {fs : List (Option MF)} {mu ap : Str → List Str} (hfs : (recsOf q).map (fun d => compF gt fresh (mu d.name) (ap d.name) d.params d.body d.scope) = fs) (hp : (recsOf q).all plainDef = true)
    (hr : ∀ f mf, fs[f]? = some (some mf) → fresh f = true → As fresh mf.body = true) : FnTab (cxOf p w h gt GT q mg fresh) fs where
  fn := fun f mf hf => by
    have hf0 := hf
    rw [← hfs, List.getElem?_map] at hf
    cases hd : (recsOf q)[f]? with
    | none => rw [hd] at hf; cases hf
    | some d =>
      rw [hd, Option.map_some] at hf
      have hcomp := Option.some.inj hf
      have hdm := List.mem_of_getElem? hd
      have hpl := List.all_eq_true.mp hp d hdm
      simp only [plainDef, Bool.and_eq_true, List.isEmpty_iff, Option.isNone_iff_eq_none, decide_eq_true_eq, Bool.not_eq_true'] at hpl
      obtain ⟨⟨⟨⟨⟨⟨p1, p2⟩, p3⟩, p4⟩, p5⟩, p6⟩, p7⟩ := hpl
      obtain ⟨a, o, pm, code, doc, h1, h2, h3, h4⟩ := G.T.fn d hdm
      have hfa : faOf q mg f = a := by unfold faOf; rw [hd]; simp only; rw [h1]
      refine ⟨_, mu d.name, ap d.name, d.params, d.body, d.scope, ⟨⟨o, _, by show h.get? (faOf q mg f) = _; rw [hfa]; exact h2, h3, rfl, rfl, rfl, rfl, rfl, h4, fun vs hl => bind_plain p1 p2 p3 p4 p5 vs hl⟩, p6, p7⟩, rfl, p5, hcomp, hr f mf hf0⟩
end
end Mine
end
section
open PySem PySem.W PySem.Calls PyProof.Rows PySem.SeqAt
namespace Mine
set_option tactic.hygienic false
set_option autoImplicit false
set_option Elab.async false
set_option maxRecDepth 100000
noncomputable def fnN : List String := ["_trim", "_gcd_int", "_exact_divide", "_positive_rem", "_shrink", "show", "_is_digit", "_spaces", "_digits_end", "_number", "_caret", "_term", "read", "multiply", "derivative", "value", "divide", "content", "primitive", "gcd", "square_free", "_law_times", "_law_at", "_law_body", "_law_pieces", "_law_shown", "_law_texts", "_law_apart", "_law_dividing", "law"]
noncomputable def fr1 (i : Nat) : Bool := i == 0
noncomputable def gt1 : List (Str × GK) := (fnN.zipIdx.map fun d => (Str.ofString d.1, GK.fn d.2 (fr1 d.2))) ++ [(Str.ofString "_law_PARTS", .tab), (Str.ofString "_law_BAD", .tab)] ++
  ((["len", "abs", "sum", "ord", "max", "min", "sorted"] : List String).map fun s => (Str.ofString s, GK.bi s)) ++
  ((["list", "str", "range", "zip", "enumerate", "type", "ValueError", "int"] : List String).map fun s => (Str.ofString s, GK.ty s))
noncomputable def nmT (l : List (String × List String)) (x : Str) : List Str := ((l.find? fun p => Str.ofString p.1 == x).map fun p => p.2.map Str.ofString).getD []
noncomputable def ap1 : Str → List Str := nmT [("square_free", ["out"]), ("_law_times", ["out"]), ("_law_pieces", ["out"]), ("law", ["want"])]
noncomputable def mu1 : Str → List Str := nmT [("_exact_divide", ["rest", "q"]), ("_positive_rem", ["z"]), ("read", ["terms"]), ("multiply", ["out"]), ("square_free", ["out"]), ("_law_times", ["out"]), ("_law_pieces", ["out"]), ("law", ["want"])]
noncomputable def G1 (x : Str) : Option AV := if x = Str.ofString "_law_PARTS" then some (.tup (PP.map fun p => .tup (p.map .int))) else if x = Str.ofString "_law_BAD" then some (.tup (BADS.map .str)) else none
theorem G1a : G1 (Str.ofString "_law_PARTS") = some (.tup (PP.map fun p => .tup (p.map .int))) := by unfold G1; rw [if_pos rfl]
theorem G1b : G1 (Str.ofString "_law_BAD") = some (.tup (BADS.map .str)) := by unfold G1; rw [if_neg (by decide +kernel), if_pos rfl]
theorem fr1s : ∀ f mf, fs1[f]? = some (some mf) → fr1 f = true → As fr1 mf.body = true := by
  intro f mf hf h
  have : f = 0 := by simpa [fr1] using h
  subst this
  cases hf
  decide +kernel
theorem tab1 {q : Program} (lit1 : ((wlitsOf q).lookup (Str.ofString "_law_PARTS")).bind avW = some (.tup (PP.map fun p => .tup (p.map .int)))) (lit2 : ((wlitsOf q).lookup (Str.ofString "_law_BAD")).bind avW = some (.tup (BADS.map .str))) :
    ∀ x, (x, GK.tab) ∈ gt1 → ∃ d av, (x, d) ∈ wlitsOf q ∧ avW d = some av ∧ G1 x = some av := by
  intro x hx
  have key : ∀ {y : Str} {av : AV}, ((wlitsOf q).lookup y).bind avW = some av → G1 y = some av → ∃ d av, (y, d) ∈ wlitsOf q ∧ avW d = some av ∧ G1 y = some av := by
    intro y av e g
    obtain ⟨d, h1, h2⟩ := Option.bind_eq_some_iff.mp e
    exact ⟨d, av, Bk h1, h2, g⟩
  have hm : x = Str.ofString "_law_PARTS" ∨ x = Str.ofString "_law_BAD" := by
    have h : ∀ e ∈ gt1, (match e.2 with | .tab => decide (e.1 = Str.ofString "_law_PARTS") || decide (e.1 = Str.ofString "_law_BAD") | _ => true) = true := by decide +kernel
    have h1 := h _ hx
    simp only [Bool.or_eq_true, decide_eq_true_eq] at h1
    exact h1
  rcases hm with rfl | rfl
  · exact key lit1 G1a
  · exact key lit2 G1b
theorem fin1 {q : Program} {XP : (Str → Option Value) → Heap → Prop} {YP : World → Heap → Prop} {d : DefRec} {kwd : List (Str × Expr)} {l : OpenLaw} (hlp : l.prog = PySem.Challenge.pw_sx_r092_1o) (hdn : d.name = Str.ofString "law")
    (hse : ∀ {loose R XP w s₀ mg mb h}, Ground q loose R XP w s₀ mg mb h → h.NoSeer) (chk : gtOk q [] gt1 = true) (pl : (recsOf q).all plainDef = true) (rec : (recsOf q).map (fun d => compF gt1 fr1 (mu1 d.name) (ap1 d.name) d.params d.body d.scope) = fs1)
    (lit1 : ((wlitsOf q).lookup (Str.ofString "_law_PARTS")).bind avW = some (.tup (PP.map fun p => .tup (p.map .int)))) (lit2 : ((wlitsOf q).lookup (Str.ofString "_law_BAD")).bind avW = some (.tup (BADS.map .str)))
    (nm : (recsOf q)[29]?.map (·.name) = some (Str.ofString "law")) : WalkO q [] XP YP l.row.toRowW d kwd fun f vs => PySem.call f vs := by
  intro w s₀ s₁ mg mb G Y fa o pm cd doc dV kV ho hd hcd hD hmg hg args vals as hpre hlay hrd hwl hlo
  have ok := cx_ok (p := l.prog) (GT := G1) (fresh := fr1) G (by rw [hlp]; rfl) (hse G) chk (tab1 lit1 lit2)
  have ft := cx_tab (p := l.prog) (GT := G1) G rec pl fr1s
  obtain ⟨s, rfl⟩ := args_of (pre_splitW hpre).1
  have hw : WData.weightAll (s.map .int) ≤ 1048576 := by
    simp only [WData.layableAll, List.all_cons, List.all_nil, Bool.and_true] at hlay
    have := (layableW_iff.mp hlay).2.2
    simpa only [WData.weight] using this
  obtain ⟨hl, hb⟩ := weight_of s
  have hrun := law_true (G := G1) G1a G1b s (fun x hx => Nat.le_trans (hb x hx) hw)
  have hfa : faOf q mg 29 = fa := by
    obtain ⟨d', h2, h3⟩ := Option.map_eq_some_iff.mp nm
    unfold faOf
    rw [h2]
    simp only [h3]
    rw [← hdn, hmg]
  have hcall := run_topG ok ft hrun callerA s₁ vals (fun _ => False) ⟨rfl, by decide, by decide, ⟨[], rfl⟩⟩
    (fun l hl env he => by cases hl; cases he) (fun _ _ e => e) (fun _ q => q.elim) (fun _ q => q.elim) (fun b hb => by cases hb) (den_script hrd (Nat.le_trans hl hw))
  rw [show (cxOf l.prog w s₁.heap gt1 G1 q mg fr1).fa 29 = fa from hfa] at hcall
  refine wpAny_mono hcall (fun v s' x => ?_) (fun e s' x => ?_)
  · obtain ⟨y, e, p⟩ := x
    cases e
    obtain ⟨⟨h', tk, rfl, kp⟩, ⟨dv, _⟩, _, _⟩ := p
    simp only [DenT] at dv
    subst dv
    exact GoodW.toG ⟨.inl ⟨_, .bool true, [], rfl, fun cls => rfl, .bool true, post_t _ _, fun _ => ⟨List.nodup_nil, fun a h => by cases h⟩⟩, fun b o e => (kp b o e).1 (by intro h; cases h), rfl, hg⟩
  · cases x.1
end Mine
end
open PySem PySem.W PyProof.Rows
set_option Elab.async false
set_option maxRecDepth 100000 in
set_option maxHeartbeats 8000000 in
theorem PySem.Challenge.cw_sx_r092_1o_holds : PySem.Challenge.rw_sx_r092_1o.Holds := by
  w_on
  refine holds_law (by decide +kernel) fun said => ?_
  o_head Hook.none
  (case hw => w_witness2)
  exact Mine.fin1 rfl rfl (fun G => G.T.seer (by decide +kernel)) (by decide +kernel) (by decide +kernel) (by kernel_rfl) (by kernel_rfl) (by kernel_rfl) (by decide +kernel)
