import PyProof.Rows.All
import PyProof.P3Statements
import PyProof.CompFree
import PyProof.WalksMore
import PyProof.WalksPairs
import PyProof.RulesTry
import PyProof.StationsW
import PyProof.Rows.Frame
import PyProof.Rows.News
import PyProof.Rows.Globals
import PyProof.Rows.StrRules
import PyProof.Rows.Lst
import PyProof.Rows.Tup
import PyProof.Rows.StrTemp
import PyProof.Rows.RuleB_pow
import PyProof.Rows.RuleB_floordiv
import PyProof.Rows.IntOr
import PyProof.Rows.ListMulArg
import PyProof.Cells
import PyProof.SliceList
import PyProof.DictCalls
import PyProof.PureInt
import PyProof.StrBlockL
import PyProof.StrBlock2
import PyProof.StrCalls2
import PyProof.StrCalls3
import PyProof.SliceStr2
import PyProof.CallStr
import PyProof.CallFns
import PyProof.Rows.StrBin
import PyProof.Rows.SeqMore
import PyProof.Rows.SumAny
import PyProof.Rows.EqDataRows
import PyProof.Rows.InDataRows
import PyProof.ListTruth
import PyProof.ListCopy
import PyProof.FString5
import PyProof.IsRules
import PyProof.DictStraight
import PyProof.Truth
import PyProof.Rows.RuleC_bool
import PyProof.Rows.RuleC_int
import PyProof.Rows.RuleN_abs
import PyProof.ListIndexNeg
import PyProof.P3In
import PyProof.Rows.Nodes
import PyProof.SliceMore
import PyProof.DictIter
import PyProof.TypeOfCall
import PyProof.SeqI3
import PyProof.RangeFor
import PyProof.Rows.Range3
import PyProof.DictWalks
import PyProof.Draws
import PyProof.ZipIter
import PyProof.EnumMake
import PyProof.WalksEnum
import PyProof.Rows.Exc
import PyProof.Rows.Chain
import PyProof.PvWalk
import PyProof.Rows.PlainStore
import PyProof.PassesOwn
import PyProof.ForAny
import PyProof.RulesRaise
import PyProof.Rows.Catch
import PyProof.ForAppend
import PyProof.ExcFactsAll.ValueError
import PyProof.ExcAttrAll.ValueError
import PyProof.P3Eq
import Wide.All
import Open.Line
import PySem.Challenge.RW_sx_r092_3
set_option Elab.async false
set_option linter.all false
set_option genInjectivity false
set_option genSizeOf false
set_option bootstrap.genMatcherCode false
set_option backward.match.sparseCases false
set_option backward.eqns.nonrecursive false
section
open PySem
namespace Mine
set_option tactic.hygienic false
set_option genCtorIdx false in
inductive AV where
  | none
  | bool (b : Bool)
  | int (i : Int)
  | str (s : List Nat)
  | ilist (xs : List Int)
  | list (xs : List AV)
  | tup (xs : List AV)
  | plist (xs : List Int)
noncomputable abbrev AV.ctorIdx (x : AV) : Nat := @AV.casesOn (fun _ => Nat) x 0 (fun _ => 1) (fun _ => 2) (fun _ => 3) (fun _ => 4) (fun _ => 5) (fun _ => 6) (fun _ => 7)
set_option genCtorIdx false in
inductive Res where
  | val (v : AV)
  | exc
noncomputable abbrev Res.ctorIdx (x : Res) : Nat := @Res.casesOn (fun _ => Nat) x (fun _ => 0) 1
inductive BOp where
  | add | sub | mul | fdiv | mod | pow
  deriving DecidableEq
inductive COp where
  | eq | ne | lt | le | gt | ge | isIn | notIn | isNone | isNotNone | isNotBool
  deriving DecidableEq
inductive F1 where
  | len | abs | list | sum | str | ord | maxL
  deriving DecidableEq
set_option genCtorIdx false in
inductive ME where
  | nil
  | cons (a b : ME)
  | lit (v : AV)
  | var (i : Nat)
  | rd (i : Nat)
  | glob (x : Str)
  | bin (op : BOp) (a b : ME)
  | neg (a : ME)
  | not (a : ME)
  | and (a b : ME)
  | or (a b : ME)
  | cmp (op : COp) (a b : ME)
  | chain (o1 o2 : COp) (a b c : ME)
  | isType (t : String) (a : ME)
  | call (f : Nat) (args : ME)
  | f1 (f : F1) (a : ME)
  | idx (a i : ME)
  | sliceTo (a n : ME)
  | sliceFrom (a n : ME)
  | list (args : ME)
  | tup (args : ME)
  | join (a b : ME)
  | comp (elt : ME) (tgt : Nat) (it : ME) (ifs : ME)
  | range (a b c : ME)
  | m2 (mx : Bool) (a b : ME)
  | count (a b : ME)
  | pl (a : ME)
  | zip (a b : ME)
  | enum (a : ME)
noncomputable abbrev ME.ctorIdx (x : ME) : Nat := @ME.casesOn (fun _ => Nat) x 0 (fun _ _ => 1) (fun _ => 2) (fun _ => 3) (fun _ => 4) (fun _ => 5) (fun _ _ _ => 6) (fun _ => 7) (fun _ => 8) (fun _ _ => 9) (fun _ _ => 10) (fun _ _ _ => 11) (fun _ _ _ _ _ => 12) (fun _ _ => 13) (fun _ _ => 14) (fun _ _ => 15) (fun _ _ => 16) (fun _ _ => 17) (fun _ _ => 18) (fun _ => 19) (fun _ => 20) (fun _ _ => 21) (fun _ _ _ _ => 22) (fun _ _ _ => 23) (fun _ _ _ => 24) (fun _ _ => 25) (fun _ => 26) (fun _ _ => 27) (fun _ => 28)
set_option genCtorIdx false in
inductive MS where
  | skip
  | seq (a b : MS)
  | fz (i : Nat) (a : MS)
  | assign (i : Nat) (m : ME)
  | assignF (i : Nat) (m : ME)
  | assignL (i : Nat) (args : ME)
  | store (i : Nat) (k v : ME)
  | append (i : Nat) (m : ME)
  | ite (c : ME) (a b : MS)
  | while (c : ME) (b : MS)
  | for (tgt : List Nat) (it : ME) (b : MS)
  | ret (m : ME)
  | raise
  | tryA (t : Option Nat) (f : Nat) (args : ME) (j : Nat) (b : Bool)
  | brk
  | cont
noncomputable abbrev MS.ctorIdx (x : MS) : Nat := @MS.casesOn (fun _ => Nat) x 0 (fun _ _ => 1) (fun _ _ => 2) (fun _ _ => 3) (fun _ _ => 4) (fun _ _ => 5) (fun _ _ _ => 6) (fun _ _ => 7) (fun _ _ _ => 8) (fun _ _ => 9) (fun _ _ _ => 10) (fun _ => 11) 12 (fun _ _ _ _ _ => 13) 14 15
abbrev St := List (Option (Bool × AV))
noncomputable def LIM : Nat := 1048576
noncomputable def getI {α : Type} (xs : List α) (i : Int) : Option α :=
  if 0 ≤ i then xs[i.toNat]? else if -(xs.length : Int) ≤ i then xs[((xs.length : Int) + i).toNat]? else none
noncomputable def Be (x y : Int) : Bool := !(decide (Builtin.Int.intBits x > shortFactorBits) && decide (Builtin.Int.intBits y > shortFactorBits) && Builtin.Int.intTooBig ((Builtin.Int.intBits x : Int) + (Builtin.Int.intBits y : Int)))
noncomputable def Et : AV → Option (List AV)
  | .ilist xs => some (xs.map .int)
  | .list xs => some xs
  | .tup xs => some xs
  | _ => none
noncomputable def Fm : List AV → Option (List Int)
  | [] => some []
  | .int i :: r => (Fm r).map (i :: ·)
  | _ => none
noncomputable def mkL (xs : List AV) : AV := match Fm xs with
  | some is => .ilist is
  | none => .list xs
mutual
noncomputable def okA : Nat → AV → Bool
  | _, .none => true
  | _, .bool _ => true
  | _, .int _ => true
  | n, .ilist _ => decide (1 ≤ n)
  | n, .list xs => decide (1 ≤ n) && okAs (n - 1) xs
  | n, .tup xs => decide (1 ≤ n) && okAs (n - 1) xs
  | _, .str _ => false
  | _, .plist _ => false
noncomputable def okAs : Nat → List AV → Bool
  | _, [] => true
  | n, x :: r => okA n x && okAs n r
end
mutual
noncomputable def toD : AV → PyData
  | .none => .none
  | .bool b => .bool b
  | .int i => .int i
  | .str s => .str ⟨s.toArray⟩
  | .ilist xs => .list (xs.map .int)
  | .list xs => .list (toDs xs)
  | .tup xs => .tuple (toDs xs)
  | .plist _ => .none
noncomputable def toDs : List AV → List PyData
  | [] => []
  | x :: r => toD x :: toDs r
end
noncomputable def eqAV : AV → AV → Option Bool
  | .int a, .int b => some (a == b)
  | .bool a, .bool b => some (a == b)
  | .str a, .str b => some (a == b)
  | .ilist a, .ilist b => some (a == b)
  | a, b => if okA 60 a && okA 60 b then some (PyData.eqv (toD a) (toD b)) else none
noncomputable def inAV (x : AV) (ys : List AV) : Option Bool :=
  if okA 60 x && okAs 60 ys then some ((toDs ys).any fun y => PyData.eqv y (toD x)) else none
noncomputable def Aa : AV → Option Bool
  | .none => some false
  | .bool b => some b
  | .int i => some (i != 0)
  | .str s => some (!s.isEmpty)
  | .ilist xs => some (!xs.isEmpty)
  | .list xs => some (!xs.isEmpty)
  | _ => none
noncomputable def An (i : Int) : List Nat := (Str.ofString (toString i)).cps.toList
noncomputable def Ht : List Nat → List Nat → Bool
  | _, [] => false
  | [], _ :: _ => true
  | a :: r, b :: t => if a < b then true else if b < a then false else Ht r t
noncomputable def Ab (op : BOp) (x y : AV) : Option AV := match op with
  | .add => (match x, y with
    | .int a, .int b => some (.int (a + b))
    | .str a, .str b => if a.length + b.length ≤ LIM then some (.str (a ++ b)) else none
    | .ilist a, .ilist b => if a.length + b.length ≤ LIM then some (.ilist (a ++ b)) else none
    | .list a, .list b => if a.length + b.length ≤ LIM then some (.list (a ++ b)) else none
    | .ilist a, .list b => if a.length + b.length ≤ LIM then some (.list (a.map .int ++ b)) else none
    | .list a, .ilist b => if a.length + b.length ≤ LIM then some (.list (a ++ b.map .int)) else none
    | _, _ => none)
  | .sub => (match x, y with | .int a, .int b => some (.int (a - b)) | _, _ => none)
  | .mul => (match x, y with
    | .int a, .int b => if Be a b then some (.int (a * b)) else none
    | .str a, .int b => if 0 ≤ b ∧ b ≤ LIM ∧ a.length * b.toNat ≤ LIM then some (.str (List.replicate b.toNat a).flatten) else none
    | .ilist a, .int b => if 0 ≤ b ∧ b ≤ LIM ∧ a.length * b.toNat ≤ LIM then some (.ilist (List.replicate b.toNat a).flatten) else none
    | .list a, .int b => if 0 ≤ b ∧ b ≤ LIM ∧ a.length * b.toNat ≤ LIM then some (.list (List.replicate b.toNat a).flatten) else none
    | _, _ => none)
  | .fdiv => (match x, y with | .int a, .int b => if b = 0 then none else some (.int (a.fdiv b)) | _, _ => none)
  | .mod => (match x, y with | .int a, .int b => if b = 0 then none else some (.int (a.fmod b)) | _, _ => none)
  | .pow => (match x, y with | .int a, .int b => if 0 ≤ b ∧ (Builtin.Int.intBits a : Int) * b ≤ 2 ^ 27 then some (.int (a ^ b.toNat)) else none | _, _ => none)
noncomputable def Ad (op : COp) (x y : AV) : Option Bool := match op with
  | .eq => eqAV x y
  | .ne => (eqAV x y).map (!·)
  | .lt => (match x, y with | .int a, .int b => some (decide (a < b)) | .str a, .str b => some (Ht a b) | _, _ => none)
  | .le => (match x, y with | .int a, .int b => some (decide (a ≤ b)) | .str a, .str b => some (!Ht b a) | _, _ => none)
  | .gt => (match x, y with | .int a, .int b => some (decide (a > b)) | .str a, .str b => some (Ht b a) | _, _ => none)
  | .ge => (match x, y with | .int a, .int b => some (decide (a ≥ b)) | .str a, .str b => some (!Ht a b) | _, _ => none)
  | .isIn => (match y with | .tup b => inAV x b | .list b => inAV x b | .ilist b => inAV x (b.map .int) | _ => none)
  | .notIn => (match y with | .tup b => (inAV x b).map (!·) | .list b => (inAV x b).map (!·) | .ilist b => (inAV x (b.map .int)).map (!·) | _ => none)
  | .isNone => (match x with | .none => some true | _ => some false)
  | .isNotNone => (match x with | .none => some false | _ => some true)
  | .isNotBool => (match x, y with | .bool a, .bool b => some (a != b) | _, _ => none)
noncomputable def sumI (xs : List Int) : Int := xs.foldl (· + ·) 0
noncomputable def Fy (a b c : Int) : List Int := (List.range (Builtin.Range.rangeSize a b c).toNat).map fun (i : Nat) => a + (i : Int) * c
noncomputable def Fw : AV → Option String
  | .none => some "NoneType"
  | .bool _ => some "bool"
  | .int _ => some "int"
  | .str _ => some "str"
  | .ilist _ => some "list"
  | .list _ => some "list"
  | .tup _ => some "tuple"
  | .plist _ => none
noncomputable def Af (f : F1) (x : AV) : Option AV := match f with
  | .len => (match x with | .str s => some (.int s.length) | .ilist s => some (.int s.length) | .list s => some (.int s.length) | .tup s => some (.int s.length) | _ => none)
  | .abs => (match x with | .int i => some (.int i.natAbs) | _ => none)
  | .list => (match x with | .ilist s => some (.ilist s) | .list s => some (.list s) | .tup s => some (mkL s) | _ => none)
  | .sum => (match x with | .ilist s => some (.int (sumI s)) | _ => none)
  | .str => (match x with | .int i => if i.natAbs.log2 < 1000 then some (.str (An i)) else none | _ => none)
  | .ord => (match x with | .str [c] => some (.int c) | _ => none)
  | .maxL => (match x with | .ilist (x :: r) => some (.int (r.foldl max x)) | _ => none)
noncomputable def Az : AV → AV → Option AV
  | .ilist xs, .int i => (getI xs i).map .int
  | .list xs, .int i => getI xs i
  | .tup xs, .int i => getI xs i
  | .str xs, .int i => (getI xs i).map fun c => .str [c]
  | _, _ => none
noncomputable def m2op (mx : Bool) : AV → AV → Option AV
  | .int x, .int y => some (.int (if mx then (if y > x then y else x) else (if y < x then y else x)))
  | _, _ => none
noncomputable def countop : AV → AV → Option AV
  | .plist xs, .int k => some (.int (xs.count k))
  | _, _ => none
noncomputable def seqOf : AV → Option (List AV)
  | .ilist xs => some (xs.map .int)
  | .list xs => some xs
  | .tup xs => some xs
  | _ => none
noncomputable def Jq : AV → Option (List AV)
  | .ilist xs => some (xs.map .int)
  | .list xs => some xs
  | _ => none
noncomputable def zipL : List AV → List AV → List AV
  | x :: r, y :: t => .tup [x, y] :: zipL r t
  | _, _ => []
noncomputable def Hz : Nat → List AV → List AV
  | n, x :: r => .tup [.int n, x] :: Hz (n + 1) r
  | _, [] => []
noncomputable def zipop (x y : AV) : Option AV := match seqOf x, Jq y with
  | some xs, some ys => some (.list (zipL xs ys))
  | _, _ => none
noncomputable def enumop (x : AV) : Option AV := match Jq x with
  | some xs => some (.list (Hz 0 xs))
  | none => none
noncomputable def takeop : AV → AV → Option AV
  | .ilist xs, .int n => if 0 ≤ n then some (.ilist (xs.take n.toNat)) else none
  | .list xs, .int n => if 0 ≤ n then some (.list (xs.take n.toNat)) else none
  | .str xs, .int n => if 0 ≤ n then some (.str (xs.take n.toNat)) else none
  | _, _ => none
noncomputable def dropop : AV → AV → Option AV
  | .ilist xs, .int n => if 0 ≤ n then some (.ilist (xs.drop n.toNat)) else none
  | .list xs, .int n => if 0 ≤ n then some (.list (xs.drop n.toNat)) else none
  | .str xs, .int n => if 0 ≤ n then some (.str (xs.drop n.toNat)) else none
  | _, _ => none
noncomputable def strsOf : List AV → Option (List (List Nat))
  | [] => some []
  | .str s :: r => (strsOf r).map (s :: ·)
  | _ => none
noncomputable def Av (sep : List Nat) : List (List Nat) → List Nat
  | [] => []
  | [x] => x
  | x :: r => x ++ sep ++ Av sep r
noncomputable def joinop : AV → AV → Option AV
  | .str sep, b => match (match b with | .list ys => strsOf ys | .ilist [] => some [] | _ => none) with
    | some ss => if (ss.map List.length).sum + ss.length * sep.length ≤ LIM then some (.str (Av sep ss)) else none
    | none => none
  | _, _ => none
noncomputable def replAt (p : List Nat) (q : List Nat) : Nat → List Nat → List Nat
  | 0, s => s
  | _, [] => []
  | n + 1, c :: r => if p.isPrefixOf (c :: r) && !p.isEmpty then q ++ replAt p q n ((c :: r).drop p.length) else c :: replAt p q n r
noncomputable def replop : AV → AV → AV → Option AV
  | .str s, .str p, .str q => if p.isEmpty then none else some (.str (replAt p q (s.length + 1) s))
  | _, _, _ => none
noncomputable def Gc : AV → AV → Option AV
  | .ilist xs, .int i => if xs.length < LIM then some (.ilist (xs ++ [i])) else none
  | .ilist xs, v => if xs.length < LIM then some (.list (xs.map .int ++ [v])) else none
  | .list xs, v => if xs.length < LIM then some (.list (xs ++ [v])) else none
  | _, _ => none
noncomputable def storeop : AV → AV → AV → Option AV
  | .ilist xs, .int k, .int v => if 0 ≤ k ∧ k < xs.length then some (.ilist (xs.set k.toNat v)) else none
  | .list xs, .int k, v => if 0 ≤ k ∧ k < xs.length then some (.list (xs.set k.toNat v)) else none
  | _, _, _ => none
noncomputable def Gb (n : Nat) (v : AV) : Option (List AV) :=
  if n = 1 then some [v] else match v with
    | .tup xs => if xs.length = n then some xs else none
    | _ => none
noncomputable def glookup (G : List (Str × AV)) (x : Str) : Option AV := G.lookup x
section
variable (G : Str → Option AV) (F : Nat → List AV → Option Res)
noncomputable def slotR (σ : St) (i : Nat) : Option AV := match σ[i]? with
  | some (some (_, v)) => some v
  | _ => none
noncomputable def slotV (σ : St) (i : Nat) : Option AV := match σ[i]? with
  | some (some (false, v)) => some v
  | _ => none
noncomputable def Ey (tests : St → Option Bool) (elt : St → Option AV) (n : Nat) (σ : St) : List AV → Option (List AV)
  | [] => some []
  | v :: r => match Gb n v with
    | none => none
    | some vs => match tests (σ ++ vs.map fun x => some (false, x)) with
      | none => none
      | some false => Ey tests elt n σ r
      | some true => match elt (σ ++ vs.map fun x => some (false, x)) with
        | none => none
        | some y => (Ey tests elt n σ r).map (y :: ·)
noncomputable def Ae : ME → St → Option AV
  | .nil, _ => some (.tup [])
  | .cons a b, σ => match Ae a σ, Ae b σ with
    | some v, some (.tup vs) => some (.tup (v :: vs))
    | _, _ => none
  | .lit v, _ => some v
  | .var i, σ => slotV σ i
  | .rd i, σ => slotR σ i
  | .glob x, _ => G x
  | .bin op a b, σ => match Ae a σ, Ae b σ with
    | some x, some y => Ab op x y
    | _, _ => none
  | .neg a, σ => match Ae a σ with
    | some (.int i) => some (.int (-i))
    | _ => none
  | .not a, σ => match Ae a σ with
    | some v => (Aa v).map fun b => .bool (!b)
    | none => none
  | .and a b, σ => match Ae a σ with
    | some v => match Aa v with
      | some true => Ae b σ
      | some false => some v
      | none => none
    | none => none
  | .or a b, σ => match Ae a σ with
    | some v => match Aa v with
      | some true => some v
      | some false => Ae b σ
      | none => none
    | none => none
  | .cmp op a b, σ => match Ae a σ, Ae b σ with
    | some x, some y => (Ad op x y).map .bool
    | _, _ => none
  | .chain o1 o2 a b c, σ => match Ae a σ, Ae b σ with
    | some x, some y => match Ad o1 x y with
      | some true => match Ae c σ with
        | some z => (Ad o2 y z).map .bool
        | none => none
      | some false => some (.bool false)
      | none => none
    | _, _ => none
  | .isType t a, σ => match Ae a σ with
    | some v => (Fw v).map fun n => .bool (n == t)
    | none => none
  | .call f args, σ => match Ae args σ with
    | some (.tup vs) => match F f vs with
      | some (.val v) => some v
      | _ => none
    | _ => none
  | .f1 f a, σ => match Ae a σ with
    | some v => Af f v
    | none => none
  | .idx a i, σ => match Ae a σ, Ae i σ with
    | some x, some y => Az x y
    | _, _ => none
  | .sliceTo a i, σ => match Ae a σ, Ae i σ with
    | some x, some y => takeop x y
    | _, _ => none
  | .sliceFrom a i, σ => match Ae a σ, Ae i σ with
    | some x, some y => dropop x y
    | _, _ => none
  | .list args, σ => match Ae args σ with
    | some (.tup vs) => if vs.length ≤ LIM then some (mkL vs) else none
    | _ => none
  | .tup args, σ => match Ae args σ with
    | some (.tup vs) => if vs.length ≤ LIM then some (.tup vs) else none
    | _ => none
  | .join a b, σ => match Ae a σ, Ae b σ with
    | some x, some y => joinop x y
    | _, _ => none
  | .comp elt n it ifs, σ => match Ae it σ with
    | some src => match Et src with
      | some vs => if vs.length ≤ LIM then (Ey (fun σ' => (Ae ifs σ').bind Aa) (Ae elt) n σ vs).map mkL else none
      | none => none
    | none => none
  | .range a b c, σ => match Ae a σ, Ae b σ, Ae c σ with
    | some (.int x), some (.int y), some (.int z) => if (z = 1 ∨ z = -1) ∧ -(LIM : Int) ≤ x ∧ x ≤ LIM ∧ -(LIM : Int) ≤ y ∧ y ≤ LIM then some (.ilist (Fy x y z)) else none
    | _, _, _ => none
  | .m2 mx a b, σ => match Ae a σ, Ae b σ with
    | some x, some y => m2op mx x y
    | _, _ => none
  | .count a b, σ => match Ae a σ, Ae b σ with
    | some x, some y => countop x y
    | _, _ => none
  | .pl a, σ => match Ae a σ with
    | some (.tup vs) => if vs.length ≤ LIM then (Fm vs).map .plist else none
    | _ => none
  | .zip a b, σ => match Ae a σ, Ae b σ with
    | some x, some y => zipop x y
    | _, _ => none
  | .enum a, σ => match Ae a σ with
    | some x => enumop x
    | none => none
noncomputable def Bc (m : ME) (σ : St) : Option Bool := (Ae G F m σ).bind Aa
set_option genCtorIdx false in
inductive Out where
  | next | brk | cont | ret (v : AV) | exc
noncomputable abbrev Out.ctorIdx (x : Out) : Nat := @Out.casesOn (fun _ => Nat) x 0 1 2 (fun _ => 3) 4
noncomputable def setTgt (σ : St) : List Nat → List AV → Option St
  | [], [] => some σ
  | i :: is, v :: vs => setTgt (σ.set i (some (false, v))) is vs
  | _, _ => none
noncomputable def freeze (σ : St) (i : Nat) : St := match σ[i]? with
  | some (some (_, v)) => σ.set i (some (false, v))
  | _ => σ
noncomputable def isList : AV → Bool
  | .ilist _ | .list _ => true
  | _ => false
noncomputable def Ej (c : St → Option Bool) (b : St → Option (Out × St)) : Nat → St → Option (Out × St)
  | 0, _ => none
  | n + 1, σ => match c σ with
    | none => none
    | some false => some (.next, σ)
    | some true => match b σ with
      | none => none
      | some (.next, σ') => Ej c b n σ'
      | some (.cont, σ') => Ej c b n σ'
      | some (.brk, σ') => some (.next, σ')
      | some (o, σ') => some (o, σ')
noncomputable def Ee (tgt : List Nat) (b : St → Option (Out × St)) : List AV → St → Option (Out × St)
  | [], σ => some (.next, σ)
  | v :: r, σ => match Gb tgt.length v with
    | none => none
    | some vs => match setTgt σ tgt vs with
      | none => none
      | some σ1 => match b σ1 with
        | none => none
        | some (.next, σ') => Ee tgt b r σ'
        | some (.cont, σ') => Ee tgt b r σ'
        | some (.brk, σ') => some (.next, σ')
        | some (o, σ') => some (o, σ')
noncomputable def Ah (N : Nat) : MS → St → Option (Out × St)
  | .skip, σ => some (.next, σ)
  | .seq a b, σ => match Ah N a σ with
    | some (.next, σ') => Ah N b σ'
    | x => x
  | .fz i a, σ => Ah N a (freeze σ i)
  | .assign i m, σ => match Ae G F m σ with
    | some v => some (.next, σ.set i (some (false, v)))
    | none => none
  | .assignF i m, σ => match Ae G F m σ with
    | some v => if isList v then some (.next, σ.set i (some (true, v))) else none
    | none => none
  | .assignL i args, σ => match Ae G F args σ with
    | some (.tup vs) => if vs.length ≤ LIM then some (.next, σ.set i (some (true, mkL vs))) else none
    | _ => none
  | .store i k v, σ => match σ[i]?, Ae G F k σ, Ae G F v σ with
    | some (some (true, x)), some kv, some vv => match storeop x kv vv with
      | some y => some (.next, σ.set i (some (true, y)))
      | none => none
    | _, _, _ => none
  | .append i m, σ => match σ[i]?, Ae G F m σ with
    | some (some (true, x)), some v => match Gc x v with
      | some y => some (.next, σ.set i (some (true, y)))
      | none => none
    | _, _ => none
  | .ite c a b, σ => match Bc G F c σ with
    | some true => Ah N a σ
    | some false => Ah N b σ
    | none => none
  | .while c b, σ => Ej (Bc G F c) (Ah N b) N σ
  | .for tgt it b, σ => match Ae G F it σ with
    | some src => match Et src with
      | some vs => Ee tgt (Ah N b) vs σ
      | none => none
    | none => none
  | .ret m, σ => match Ae G F m σ with
    | some v => some (.ret v, σ)
    | none => none
  | .raise, σ => some (.exc, σ)
  | .tryA t f args j b, σ => match Ae G F args σ with
    | some (.tup vs) => match F f vs with
      | some (.val v) => match t with
        | some i => some (.next, σ.set i (some (false, v)))
        | none => none
      | some .exc => some (.next, σ.set j (some (false, .bool b)))
      | none => none
    | _ => none
  | .brk, σ => some (.brk, σ)
  | .cont, σ => some (.cont, σ)
end
set_option genCtorIdx false in
inductive GK where
  | fn (i : Nat) (fresh : Bool)
  | bi (id : String)
  | ty (name : String)
  | tab
noncomputable abbrev GK.ctorIdx (x : GK) : Nat := @GK.casesOn (fun _ => Nat) x (fun _ _ => 0) (fun _ => 1) (fun _ => 2) 3
set_option genCtorIdx false in
structure CE where
  scope : Scope
  vm : List (Str × Nat)
  n : Nat
  gt : List (Str × GK)
  ap : List Nat := []
noncomputable def CE.glob (c : CE) (x : Str) : Option GK := if x == ("__debug__" : Str) then none else if c.scope.names.lookup x == some .globalImplicit then c.gt.lookup x else none
noncomputable def bopOf : Operator → Option BOp
  | .Add => some .add | .Sub => some .sub | .Mult => some .mul | .FloorDiv => some .fdiv | .Mod => some .mod | .Pow => some .pow
  | _ => none
noncomputable def copOf : CmpOp → Option COp
  | .Eq => some .eq | .NotEq => some .ne | .Lt => some .lt | .LtE => some .le | .Gt => some .gt | .GtE => some .ge | .In => some .isIn | .NotIn => some .notIn
  | _ => none
noncomputable def consAll : List ME → ME
  | [] => .nil
  | a :: r => .cons a (consAll r)
noncomputable def andAll : List ME → ME
  | [] => .lit (.bool true)
  | [a] => a
  | a :: r => .and a (andAll r)
noncomputable def orAll : List ME → ME
  | [] => .lit (.bool false)
  | [a] => a
  | a :: r => .or a (orAll r)
noncomputable def mapO {α β : Type} (f : α → Option β) : List α → Option (List β)
  | [] => some []
  | a :: r => match f a, mapO f r with
    | some b, some bs => some (b :: bs)
    | _, _ => none
noncomputable def nameOf : Expr → Option Str
  | .Name x _ => some x
  | _ => none
noncomputable def Bh : Expr → Option (List Str)
  | .Name x _ => some [x]
  | .Tuple es _ _ => if es.length < 2 then none else mapO nameOf es
  | _ => none
noncomputable def Jb : Expr → Bool
  | .Call .. => true
  | _ => false
noncomputable def Eo (outer scope : Scope) (xs : List Str) : Bool :=
  scope.kind == .function && scope.names.all (fun p => p.2 == .local || p.2 == .free || p.2 == .globalImplicit) &&
  scope.names.all (fun p => scope.names.lookup p.1 == some p.2) &&
  scope.names.all (fun p => p.2 != .free || outer.names.lookup p.1 == some .cell) &&
  xs.all (fun x => scope.names.lookup x == some .local) && decide xs.Nodup
noncomputable def caps : ME → List Nat
  | .nil | .lit _ | .glob _ | .rd _ => []
  | .var i => [i]
  | .neg a | .not a | .isType _ a | .f1 _ a | .list a | .tup a | .call _ a | .enum a | .pl a => caps a
  | .cons a b | .bin _ a b | .and a b | .or a b | .cmp _ a b | .idx a b | .sliceTo a b | .sliceFrom a b | .join a b | .m2 _ a b | .count a b | .zip a b => caps a ++ caps b
  | .chain _ _ a b c | .range a b c => caps a ++ caps b ++ caps c
  | .comp a _ b c => caps a ++ caps b ++ caps c
noncomputable def Ig (fresh : Nat → Bool) : ME → Bool
  | .list _ | .comp .. | .sliceTo .. | .sliceFrom .. => true
  | .bin .mul _ _ | .bin .add _ _ => true
  | .f1 .list _ => true
  | .call f _ => fresh f
  | _ => false
noncomputable def fzAll : List Nat → MS → MS
  | [], s => s
  | i :: r, s => .fz i (fzAll r s)
set_option genCtorIdx false in
structure CS extends CE where
  mu : List Nat
  fresh : Nat → Bool
noncomputable def CS.fz (c : CS) (m : List ME) (s : MS) : MS := fzAll ((m.flatMap caps).filter (c.mu.contains ·)).eraseDups s
noncomputable def seqAll : List MS → MS
  | [] => .skip
  | a :: r => .seq a (seqAll r)
set_option genCtorIdx false in
structure MF where
  nargs : Nat
  nslots : Nat
  body : MS
noncomputable def Ep (sc : Scope) : List Str := (sc.names.filter fun p => p.2 == .local || p.2 == .cell).map (·.1)
end Mine
end
section
open PySem
namespace Mine
set_option tactic.hygienic false
set_option autoImplicit false
abbrev vv (x : AV) : Option (Bool × AV) := some (false, x)
theorem Fx {α β : Type} {x : Option α} {y : Option β} (e : x ≠ none) (k : ∀ o, x = some o → ∃ o', y = some o') : y ≠ none := by
  cases x with
  | none => exact absurd rfl e
  | some o => obtain ⟨o', h⟩ := k o rfl; rw [h]; exact fun z => nomatch z
theorem nn {α : Type} {x : Option α} {a : α} (h : x = some a) : x ≠ none := fun z => nomatch z.symm.trans h
theorem nN {α : Type} {x : Option α} {a : α} (h : x = none) (e : x = some a) : False := nomatch h.symm.trans e
theorem nS {α : Type} {a : α} (h : (none : Option α) = some a) : False := nomatch h
theorem iS {α : Type} {p : Prop} [Decidable p] {a b : α} (h : (if p then some a else none) = some b) : p ∧ a = b := by
  by_cases q : p
  · rw [if_pos q] at h; exact ⟨q, Option.some.inj h⟩
  · rw [if_neg q] at h; exact (nS h).elim
theorem iN {α : Type} {p : Prop} [Decidable p] {a b : α} (h : (if p then none else some a) = some b) : ¬p ∧ a = b := by
  by_cases q : p
  · rw [if_pos q] at h; exact (nS h).elim
  · rw [if_neg q] at h; exact ⟨q, Option.some.inj h⟩
theorem iE {α : Type} {p : Prop} [Decidable p] {a : Option α} {b : α} (h : (if p then none else a) = some b) : ¬p ∧ a = some b := by
  by_cases q : p
  · rw [if_pos q] at h; exact (nS h).elim
  · rw [if_neg q] at h; exact ⟨q, h⟩
theorem mS {α β : Type} {f : α → β} {o : Option α} {b : β} (h : o.map f = some b) : ∃ a, o = some a ∧ f a = b := Option.map_eq_some_iff.mp h
theorem i1 {β : Type} {o : Option AV} {k : AV → Option β} {b : β} (h : (match o with | some v => k v | none => none) = some b) : ∃ v, o = some v ∧ k v = some b := by
  cases o with
  | none => exact (nS h).elim
  | some v => exact ⟨v, rfl, h⟩
theorem i2 {β : Type} {o p : Option AV} {k : AV → AV → Option β} {b : β} (h : (match o, p with | some v, some w => k v w | _, _ => none) = some b) : ∃ v w, o = some v ∧ p = some w ∧ k v w = some b := by
  cases o with
  | none => exact (nS h).elim
  | some v => cases p with
    | none => exact (nS h).elim
    | some w => exact ⟨v, w, rfl, rfl, h⟩
theorem i3 {β : Type} {o p q : Option AV} {k : AV → AV → AV → Option β} {b : β} (h : (match o, p, q with | some v, some w, some x => k v w x | _, _, _ => none) = some b) : ∃ v w x, o = some v ∧ p = some w ∧ q = some x ∧ k v w x = some b := by
  cases o with
  | none => exact (nS h).elim
  | some v => cases p with
    | none => exact (nS h).elim
    | some w => cases q with
      | none => exact (nS h).elim
      | some x => exact ⟨v, w, x, rfl, rfl, rfl, h⟩
theorem iT {β : Type} {o : Option AV} {k : List AV → Option β} {b : β} (h : (match o with | some (.tup vs) => k vs | _ => none) = some b) : ∃ vs, o = some (.tup vs) ∧ k vs = some b := by
  cases o with
  | none => exact (nS h).elim
  | some v => cases v <;> first | exact (nS h).elim | exact ⟨_, rfl, h⟩
theorem iI {β : Type} {o : Option AV} {k : Int → Option β} {b : β} (h : (match o with | some (.int vs) => k vs | _ => none) = some b) : ∃ vs, o = some (.int vs) ∧ k vs = some b := by
  cases o with
  | none => exact (nS h).elim
  | some v => cases v <;> first | exact (nS h).elim | exact ⟨_, rfl, h⟩
theorem iC {β : Type} {p o : Option AV} {k : AV → List AV → Option β} {b : β} (h : (match p, o with | some v, some (.tup vs) => k v vs | _, _ => none) = some b) : ∃ v vs, p = some v ∧ o = some (.tup vs) ∧ k v vs = some b := by
  cases p with
  | none => exact (nS h).elim
  | some w => cases o with
    | none => exact (nS h).elim
    | some v => cases v <;> first | exact (nS h).elim | exact ⟨_, _, rfl, rfl, h⟩
theorem iV {β : Type} {o : Option Res} {k : AV → Option β} {b : β} (h : (match o with | some (.val v) => k v | _ => none) = some b) : ∃ v, o = some (.val v) ∧ k v = some b := by
  cases o with
  | none => exact (nS h).elim
  | some v => cases v <;> first | exact (nS h).elim | exact ⟨_, rfl, h⟩
theorem iR {β : Type} {o p q : Option AV} {k : Int → Int → Int → Option β} {b : β} (h : (match o, p, q with | some (.int x), some (.int y), some (.int z) => k x y z | _, _, _ => none) = some b) : ∃ x y z, o = some (.int x) ∧ p = some (.int y) ∧ q = some (.int z) ∧ k x y z = some b := by
  cases o with
  | none => exact (nS h).elim
  | some v => cases v <;> first | exact (nS h).elim | skip
              cases p with
              | none => exact (nS h).elim
              | some v => cases v <;> first | exact (nS h).elim | skip
                          cases q with
                          | none => exact (nS h).elim
                          | some v => cases v <;> first | exact (nS h).elim | exact ⟨_, _, _, rfl, rfl, rfl, h⟩
theorem iB {β : Type} {o : Option Bool} {x y : Option β} {b : β} (h : (match o with | some true => x | some false => y | none => none) = some b) : (o = some true ∧ x = some b) ∨ (o = some false ∧ y = some b) := by
  cases o with
  | none => exact (nS h).elim
  | some v => cases v <;> first | exact .inl ⟨rfl, h⟩ | exact .inr ⟨rfl, h⟩
theorem iO {β : Type} {o : Option (Option (Bool × AV))} {k : Bool → AV → Option β} {b : β} (h : (match o with | some (some (f, v)) => k f v | _ => none) = some b) : ∃ f v, o = some (some (f, v)) ∧ k f v = some b := by
  rcases o with _ | _ | ⟨_, _⟩ <;> first | exact (nS h).elim | exact ⟨_, _, rfl, h⟩
theorem iF {o : Option (Option (Bool × AV))} {b : AV} (h : (match o with | some (some (false, v)) => some v | _ => none) = some b) : o = some (some (false, b)) := by
  rcases o with _ | _ | ⟨_ | _, _⟩ <;> first | exact (nS h).elim | (cases h; rfl)
theorem iP {β : Type} {o : Option (Option (Bool × AV))} {p : Option AV} {k : AV → AV → Option β} {b : β} (h : (match o, p with | some (some (true, x)), some v => k x v | _, _ => none) = some b) : ∃ x v, o = some (some (true, x)) ∧ p = some v ∧ k x v = some b := by
  rcases o with _ | _ | ⟨_ | _, _⟩ <;> rcases p with _ | _ <;> first | exact (nS h).elim | exact ⟨_, _, rfl, rfl, h⟩
theorem iQ {β : Type} {o : Option (Option (Bool × AV))} {p q : Option AV} {k : AV → AV → AV → Option β} {b : β} (h : (match o, p, q with | some (some (true, x)), some v, some w => k x v w | _, _, _ => none) = some b) : ∃ x v w, o = some (some (true, x)) ∧ p = some v ∧ q = some w ∧ k x v w = some b := by
  rcases o with _ | _ | ⟨_ | _, _⟩ <;> rcases p with _ | _ <;> rcases q with _ | _ <;> first | exact (nS h).elim | exact ⟨_, _, _, rfl, rfl, rfl, h⟩
theorem iL {β : Type} {o : Option (List AV)} {k : List AV → Option β} {b : β} (h : (match o with | some v => k v | none => none) = some b) : ∃ v, o = some v ∧ k v = some b := by
  cases o with
  | none => exact (nS h).elim
  | some v => exact ⟨v, rfl, h⟩
theorem iM {α β : Type} {p : Prop} [Decidable p] {o : Option α} {f : α → β} {b : β} (h : (if p then o.map f else none) = some b) : ∃ a, b = f a := by
  by_cases q : p
  · rw [if_pos q] at h; obtain ⟨a, _, e⟩ := mS h; exact ⟨a, e.symm⟩
  · rw [if_neg q] at h; exact (nS h).elim
section
variable {G : Str → Option AV} {F : Nat → List AV → Option Res} {N : Nat} {σ : St}
theorem J0 : Ah G F N .skip σ = some (.next, σ) := rfl
theorem J1 {a b : MS} : Ah G F N (.seq a b) σ = (match Ah G F N a σ with | some (.next, σ') => Ah G F N b σ' | x => x) := rfl
theorem J2 {i : Nat} {a : MS} : Ah G F N (.fz i a) σ = Ah G F N a (freeze σ i) := rfl
theorem J3 {i : Nat} {m : ME} : Ah G F N (.assign i m) σ = (match Ae G F m σ with | some v => some (.next, σ.set i (some (false, v))) | none => none) := rfl
theorem J4 {i : Nat} {m : ME} : Ah G F N (.assignF i m) σ = (match Ae G F m σ with | some v => if isList v then some (.next, σ.set i (some (true, v))) else none | none => none) := rfl
theorem J5 {i : Nat} {m : ME} : Ah G F N (.assignL i m) σ = (match Ae G F m σ with | some (.tup vs) => if vs.length ≤ LIM then some (.next, σ.set i (some (true, mkL vs))) else none | _ => none) := rfl
theorem J6 {i : Nat} {k v : ME} : Ah G F N (.store i k v) σ = (match σ[i]?, Ae G F k σ, Ae G F v σ with
    | some (some (true, x)), some kv, some vv => match storeop x kv vv with
      | some y => some (.next, σ.set i (some (true, y)))
      | none => none
    | _, _, _ => none) := rfl
theorem J7 {i : Nat} {m : ME} : Ah G F N (.append i m) σ = (match σ[i]?, Ae G F m σ with
    | some (some (true, x)), some v => match Gc x v with
      | some y => some (.next, σ.set i (some (true, y)))
      | none => none
    | _, _ => none) := rfl
theorem J8 {c : ME} {a b : MS} : Ah G F N (.ite c a b) σ = (match Bc G F c σ with | some true => Ah G F N a σ | some false => Ah G F N b σ | none => none) := rfl
theorem J9 {c : ME} {b : MS} : Ah G F N (.while c b) σ = Ej (Bc G F c) (Ah G F N b) N σ := rfl
theorem K0 {t : List Nat} {it : ME} {b : MS} : Ah G F N (.for t it b) σ = (match Ae G F it σ with
    | some src => match Et src with
      | some vs => Ee t (Ah G F N b) vs σ
      | none => none
    | none => none) := rfl
theorem K1 {m : ME} : Ah G F N (.ret m) σ = (match Ae G F m σ with | some v => some (.ret v, σ) | none => none) := rfl
theorem K2 : Ah G F N .raise σ = some (.exc, σ) := rfl
theorem K3 : Ah G F N .brk σ = some (.brk, σ) := rfl
theorem K4 : Ah G F N .cont σ = some (.cont, σ) := rfl
theorem K5 {t : Option Nat} {f : Nat} {args : ME} {j : Nat} {b : Bool} : Ah G F N (.tryA t f args j b) σ = (match Ae G F args σ with
    | some (.tup vs) => match F f vs with
      | some (.val v) => match t with
        | some i => some (.next, σ.set i (some (false, v)))
        | none => none
      | some .exc => some (.next, σ.set j (some (false, .bool b)))
      | none => none
    | _ => none) := rfl
theorem w_zero {c : St → Option Bool} {b : St → Option (Out × St)} : Ej c b 0 σ = none := rfl
theorem Ip {c : St → Option Bool} {b : St → Option (Out × St)} {n : Nat} : Ej c b (n + 1) σ = (match c σ with
    | none => none
    | some false => some (.next, σ)
    | some true => match b σ with
      | none => none
      | some (.next, σ') => Ej c b n σ'
      | some (.cont, σ') => Ej c b n σ'
      | some (.brk, σ') => some (.next, σ')
      | some (o, σ') => some (o, σ')) := rfl
theorem f_nil {t : List Nat} {b : St → Option (Out × St)} : Ee t b [] σ = some (.next, σ) := rfl
theorem f_cons {t : List Nat} {b : St → Option (Out × St)} {v : AV} {r : List AV} : Ee t b (v :: r) σ = (match Gb t.length v with
    | none => none
    | some vs => match setTgt σ t vs with
      | none => none
      | some σ1 => match b σ1 with
        | none => none
        | some (.next, σ') => Ee t b r σ'
        | some (.cont, σ') => Ee t b r σ'
        | some (.brk, σ') => some (.next, σ')
        | some (o, σ') => some (o, σ')) := rfl
theorem K6 {m : ME} : Bc G F m σ = (Ae G F m σ).bind Aa := rfl
theorem K7 : Ae G F .nil σ = some (.tup []) := rfl
theorem K8 {a b : ME} : Ae G F (.cons a b) σ = (match Ae G F a σ, Ae G F b σ with | some v, some (.tup vs) => some (.tup (v :: vs)) | _, _ => none) := rfl
theorem K9 {v : AV} : Ae G F (.lit v) σ = some v := rfl
theorem Q0 {i : Nat} : Ae G F (.var i) σ = slotV σ i := rfl
theorem Q1 {i : Nat} : Ae G F (.rd i) σ = slotR σ i := rfl
theorem Q2 {x : Str} : Ae G F (.glob x) σ = G x := rfl
theorem Q3 {op : BOp} {a b : ME} : Ae G F (.bin op a b) σ = (match Ae G F a σ, Ae G F b σ with | some x, some y => Ab op x y | _, _ => none) := rfl
theorem Q4 {a : ME} : Ae G F (.neg a) σ = (match Ae G F a σ with | some (.int i) => some (.int (-i)) | _ => none) := rfl
theorem Q5 {a : ME} : Ae G F (.not a) σ = (match Ae G F a σ with | some v => (Aa v).map fun b => .bool (!b) | none => none) := rfl
theorem Q6 {a b : ME} : Ae G F (.and a b) σ = (match Ae G F a σ with
    | some v => match Aa v with
      | some true => Ae G F b σ
      | some false => some v
      | none => none
    | none => none) := rfl
theorem Q7 {a b : ME} : Ae G F (.or a b) σ = (match Ae G F a σ with
    | some v => match Aa v with
      | some true => some v
      | some false => Ae G F b σ
      | none => none
    | none => none) := rfl
theorem Q8 {op : COp} {a b : ME} : Ae G F (.cmp op a b) σ = (match Ae G F a σ, Ae G F b σ with | some x, some y => (Ad op x y).map .bool | _, _ => none) := rfl
theorem Q9 {o1 o2 : COp} {a b c : ME} : Ae G F (.chain o1 o2 a b c) σ = (match Ae G F a σ, Ae G F b σ with
    | some x, some y => match Ad o1 x y with
      | some true => match Ae G F c σ with
        | some z => (Ad o2 y z).map .bool
        | none => none
      | some false => some (.bool false)
      | none => none
    | _, _ => none) := rfl
theorem U0 {t : String} {a : ME} : Ae G F (.isType t a) σ = (match Ae G F a σ with | some v => (Fw v).map fun n => .bool (n == t) | none => none) := rfl
theorem U1 {f : Nat} {a : ME} : Ae G F (.call f a) σ = (match Ae G F a σ with
    | some (.tup vs) => match F f vs with
      | some (.val v) => some v
      | _ => none
    | _ => none) := rfl
theorem U2 {f : F1} {a : ME} : Ae G F (.f1 f a) σ = (match Ae G F a σ with | some v => Af f v | none => none) := rfl
theorem U3 {a b : ME} : Ae G F (.idx a b) σ = (match Ae G F a σ, Ae G F b σ with | some x, some y => Az x y | _, _ => none) := rfl
theorem U4 {a b : ME} : Ae G F (.sliceTo a b) σ = (match Ae G F a σ, Ae G F b σ with | some x, some y => takeop x y | _, _ => none) := rfl
theorem U5 {a b : ME} : Ae G F (.sliceFrom a b) σ = (match Ae G F a σ, Ae G F b σ with | some x, some y => dropop x y | _, _ => none) := rfl
theorem U6 {a : ME} : Ae G F (.list a) σ = (match Ae G F a σ with | some (.tup vs) => if vs.length ≤ LIM then some (mkL vs) else none | _ => none) := rfl
theorem U7 {a : ME} : Ae G F (.tup a) σ = (match Ae G F a σ with | some (.tup vs) => if vs.length ≤ LIM then some (.tup vs) else none | _ => none) := rfl
theorem U8 {a b : ME} : Ae G F (.join a b) σ = (match Ae G F a σ, Ae G F b σ with | some x, some y => joinop x y | _, _ => none) := rfl
theorem U9 {elt : ME} {n : Nat} {it ifs : ME} : Ae G F (.comp elt n it ifs) σ = (match Ae G F it σ with
    | some src => match Et src with
      | some vs => if vs.length ≤ LIM then (Ey (Bc G F ifs) (Ae G F elt) n σ vs).map mkL else none
      | none => none
    | none => none) := rfl
theorem V0 {a b c : ME} : Ae G F (.range a b c) σ = (match Ae G F a σ, Ae G F b σ, Ae G F c σ with
    | some (.int x), some (.int y), some (.int z) => if (z = 1 ∨ z = -1) ∧ -(LIM : Int) ≤ x ∧ x ≤ LIM ∧ -(LIM : Int) ≤ y ∧ y ≤ LIM then some (.ilist (Fy x y z)) else none
    | _, _, _ => none) := rfl
theorem V1 {mx : Bool} {a b : ME} : Ae G F (.m2 mx a b) σ = (match Ae G F a σ, Ae G F b σ with | some x, some y => m2op mx x y | _, _ => none) := rfl
theorem V2 {a b : ME} : Ae G F (.count a b) σ = (match Ae G F a σ, Ae G F b σ with | some x, some y => countop x y | _, _ => none) := rfl
theorem V3 {a : ME} : Ae G F (.pl a) σ = (match Ae G F a σ with | some (.tup vs) => if vs.length ≤ LIM then (Fm vs).map .plist else none | _ => none) := rfl
theorem V4 {a b : ME} : Ae G F (.zip a b) σ = (match Ae G F a σ, Ae G F b σ with | some x, some y => zipop x y | _, _ => none) := rfl
theorem V5 {a : ME} : Ae G F (.enum a) σ = (match Ae G F a σ with | some x => enumop x | none => none) := rfl
theorem V6 {i : Nat} : slotR σ i = (match σ[i]? with | some (some (_, v)) => some v | _ => none) := rfl
theorem V7 {i : Nat} : slotV σ i = (match σ[i]? with | some (some (false, v)) => some v | _ => none) := rfl
end
theorem iD {G : Str → Option AV} {F : Nat → List AV → Option Res} {m : ME} {σ : St} {b : Bool} (h : Bc G F m σ = some b) : ∃ w, Ae G F m σ = some w ∧ Aa w = some b := Option.bind_eq_some_iff.mp h
theorem mo_c {α β : Type} {f : α → Option β} {a : α} {r : List α} {l : List β} (h : mapO f (a :: r) = some l) : ∃ b bs, f a = some b ∧ mapO f r = some bs ∧ l = b :: bs := by
  have e : mapO f (a :: r) = (match f a, mapO f r with | some b, some bs => some (b :: bs) | _, _ => none) := rfl
  rw [e] at h
  cases q : f a with
  | none => rw [q] at h; exact (nS h).elim
  | some b => cases q' : mapO f r with
    | none => rw [q, q'] at h; exact (nS h).elim
    | some bs => rw [q, q'] at h; exact ⟨b, bs, rfl, rfl, (Option.some.inj h).symm⟩
theorem io_c {i : Int} {r : List AV} : Fm (.int i :: r) = (Fm r).map (i :: ·) := rfl
theorem so_c {i : List Nat} {r : List AV} : strsOf (.str i :: r) = (strsOf r).map (i :: ·) := rfl
noncomputable def mulO (x y : Int) : Option Int := if Be x y then some (x * y) else none
theorem range_nat (n : Nat) : Fy 0 n 1 = (List.range n).map fun (i : Nat) => (i : Int) := by
  unfold Fy Builtin.Range.rangeSize
  simp only [show (1 : Int) > 0 by decide, if_true, Int.ediv_one]
  have : (if (0 : Int) < n then (n : Int) - 0 - 1 + 1 else 0).toNat = n := by split <;> lia
  rw [this]
  apply List.map_congr_left
  intro i _; lia
theorem Fg (xs : List Int) : mkL (xs.map .int) = .ilist xs := by
  have : Fm (xs.map AV.int) = some xs := by
    induction xs with
    | nil => rfl
    | cons a r ih => rw [List.map_cons, io_c, ih]; rfl
  unfold mkL; rw [this]
theorem Jw {tests : St → Option Bool} {elt : St → Option AV} {σ : St} (f : AV → AV) : ∀ {ys : List AV}, (∀ y ∈ ys, tests (σ ++ [some (false, y)]) = some true) → (∀ y ∈ ys, elt (σ ++ [some (false, y)]) = some (f y)) → Ey tests elt 1 σ ys = some (ys.map f)
  | [], _, _ => rfl
  | y :: r, h1, h2 => by
    have e1 := h1 y List.mem_cons_self
    have e2 := h2 y List.mem_cons_self
    have ih := Jw f (fun z hz => h1 z (List.mem_cons_of_mem _ hz)) (fun z hz => h2 z (List.mem_cons_of_mem _ hz))
    simp only [Ey, Gb, if_true, List.map_cons, List.map_nil, e1, e2, ih, Option.map_some]
theorem Jr {tests : St → Option Bool} {elt : St → Option AV} {σ : St} (p : AV → Bool) (f : AV → AV) : ∀ {ys : List AV}, (∀ y ∈ ys, tests (σ ++ [some (false, y)]) = some (p y)) → (∀ y ∈ ys, p y = true → elt (σ ++ [some (false, y)]) = some (f y)) → Ey tests elt 1 σ ys = some ((ys.filter p).map f)
  | [], _, _ => rfl
  | y :: r, h1, h2 => by
    have e1 := h1 y List.mem_cons_self
    have ih := Jr p f (fun z hz => h1 z (List.mem_cons_of_mem _ hz)) (fun z hz => h2 z (List.mem_cons_of_mem _ hz))
    cases hp : p y with
    | false => rw [hp] at e1; simp only [Ey, Gb, if_true, List.map_cons, List.map_nil, e1, ih, List.filter_cons, hp, Bool.false_eq_true, if_false]
    | true =>
      have e2 := h2 y List.mem_cons_self hp
      rw [hp] at e1
      simp only [Ey, Gb, if_true, List.map_cons, List.map_nil, e1, e2, ih, Option.map_some, List.filter_cons, hp]
section
variable {σ σ' : St} {c : St → Option Bool} {b : St → Option (Out × St)} {n : Nat}
theorem Hk (h : c σ = some false) : Ej c b (n + 1) σ = some (.next, σ) := by rw [Ip, h]
theorem Hp (h : c σ = some true) (hb : b σ = some (.next, σ')) : Ej c b (n + 1) σ = Ej c b n σ' := by rw [Ip, h]; simp only [hb]
theorem w_ret {v : AV} (h : c σ = some true) (hb : b σ = some (.ret v, σ')) : Ej c b (n + 1) σ = some (.ret v, σ') := by rw [Ip, h]; simp only [hb]
theorem w_exc (h : c σ = some true) (hb : b σ = some (.exc, σ')) : Ej c b (n + 1) σ = some (.exc, σ') := by rw [Ip, h]; simp only [hb]
theorem w_brk (h : c σ = some true) (hb : b σ = some (.brk, σ')) : Ej c b (n + 1) σ = some (.next, σ') := by rw [Ip, h]; simp only [hb]
theorem Fq {i : Nat} {v : AV} {r : List AV} (hb : b (σ.set i (some (false, v))) = some (.next, σ')) : Ee [i] b (v :: r) σ = Ee [i] b r σ' := by
  have e : Ee [i] b (v :: r) σ = (match b (σ.set i (some (false, v))) with
    | none => none
    | some (.next, σ') => Ee [i] b r σ'
    | some (.cont, σ') => Ee [i] b r σ'
    | some (.brk, σ') => some (.next, σ')
    | some (o, σ') => some (o, σ')) := rfl
  rw [e, hb]
theorem f_next2 {i j : Nat} {v w : AV} {r : List AV} (hb : b ((σ.set i (some (false, v))).set j (some (false, w))) = some (.next, σ')) : Ee [i, j] b (.tup [v, w] :: r) σ = Ee [i, j] b r σ' := by
  have e : Ee [i, j] b (.tup [v, w] :: r) σ = (match b ((σ.set i (some (false, v))).set j (some (false, w))) with
    | none => none
    | some (.next, σ') => Ee [i, j] b r σ'
    | some (.cont, σ') => Ee [i, j] b r σ'
    | some (.brk, σ') => some (.next, σ')
    | some (o, σ') => some (o, σ')) := rfl
  rw [e, hb]
end
section
variable {G : Str → Option AV} {F : Nat → List AV → Option Res} {N : Nat} {σ σ' : St} {a b : MS}
theorem Ag (h : Ah G F N a σ = some (.next, σ')) : Ah G F N (.seq a b) σ = Ah G F N b σ' := by rw [J1, h]
theorem Ho {v : AV} (h : Ah G F N a σ = some (.ret v, σ')) : Ah G F N (.seq a b) σ = some (.ret v, σ') := by rw [J1, h]
theorem x_throw (h : Ah G F N a σ = some (.exc, σ')) : Ah G F N (.seq a b) σ = some (.exc, σ') := by rw [J1, h]
theorem mkL1 (x : Int) : mkL [.int x] = .ilist [x] := rfl
theorem mkL0 : mkL [] = .ilist [] := rfl
end
theorem Cp : Aa .none = some false := rfl
theorem Co {b : Bool} : Aa (.bool b) = some b := rfl
theorem Cu {i : Int} : Aa (.int i) = some (i != 0) := rfl
theorem Ct {s : List Nat} : Aa (.str s) = some (!s.isEmpty) := rfl
theorem Ch {s : List Int} : Aa (.ilist s) = some (!s.isEmpty) := rfl
theorem Cq {s : List AV} : Aa (.list s) = some (!s.isEmpty) := rfl
theorem Cd {s : List Nat} : Af .len (.str s) = some (.int s.length) := rfl
theorem Bx {s : List Int} : Af .len (.ilist s) = some (.int s.length) := rfl
theorem By {s : List AV} : Af .len (.list s) = some (.int s.length) := rfl
theorem Cc {s : List AV} : Af .len (.tup s) = some (.int s.length) := rfl
theorem Di {i : Int} : Af .abs (.int i) = some (.int i.natAbs) := rfl
theorem Cm {s : List Int} : Af .list (.ilist s) = some (.ilist s) := rfl
theorem Cl {s : List AV} : Af .list (.list s) = some (.list s) := rfl
theorem Ck {s : List AV} : Af .list (.tup s) = some (mkL s) := rfl
theorem Df {s : List Int} : Af .sum (.ilist s) = some (.int (sumI s)) := rfl
theorem Dg {i : Int} : Af .str (.int i) = (if i.natAbs.log2 < 1000 then some (.str (An i)) else none) := rfl
theorem Dh {c : Nat} : Af .ord (.str [c]) = some (.int c) := rfl
theorem eq_int {a b : Int} : eqAV (.int a) (.int b) = some (a == b) := rfl
theorem eq_bool {a b : Bool} : eqAV (.bool a) (.bool b) = some (a == b) := rfl
theorem eq_str {a b : List Nat} : eqAV (.str a) (.str b) = some (a == b) := rfl
theorem Ea {a b : List Int} : eqAV (.ilist a) (.ilist b) = some (a == b) := rfl
theorem Dm {a b : Int} : Ab .add (.int a) (.int b) = some (.int (a + b)) := rfl
theorem Dl {a b : List Nat} : Ab .add (.str a) (.str b) = (if a.length + b.length ≤ LIM then some (.str (a ++ b)) else none) := rfl
theorem Dz {a b : List Int} : Ab .add (.ilist a) (.ilist b) = (if a.length + b.length ≤ LIM then some (.ilist (a ++ b)) else none) := rfl
theorem Dw {a b : List AV} : Ab .add (.list a) (.list b) = (if a.length + b.length ≤ LIM then some (.list (a ++ b)) else none) := rfl
theorem Dy {a : List Int} {b : List AV} : Ab .add (.ilist a) (.list b) = (if a.length + b.length ≤ LIM then some (.list (a.map .int ++ b)) else none) := rfl
theorem Dx {a : List AV} {b : List Int} : Ab .add (.list a) (.ilist b) = (if a.length + b.length ≤ LIM then some (.list (a ++ b.map .int)) else none) := rfl
theorem Dk {a b : Int} : Ab .sub (.int a) (.int b) = some (.int (a - b)) := rfl
theorem Dc {a b : Int} : Ab .mul (.int a) (.int b) = (if Be a b then some (.int (a * b)) else none) := rfl
theorem Cs {a : List Nat} {b : Int} : Ab .mul (.str a) (.int b) = (if 0 ≤ b ∧ b ≤ LIM ∧ a.length * b.toNat ≤ LIM then some (.str (List.replicate b.toNat a).flatten) else none) := rfl
theorem Cg {a : List Int} {b : Int} : Ab .mul (.ilist a) (.int b) = (if 0 ≤ b ∧ b ≤ LIM ∧ a.length * b.toNat ≤ LIM then some (.ilist (List.replicate b.toNat a).flatten) else none) := rfl
theorem Cn {a : List AV} {b : Int} : Ab .mul (.list a) (.int b) = (if 0 ≤ b ∧ b ≤ LIM ∧ a.length * b.toNat ≤ LIM then some (.list (List.replicate b.toNat a).flatten) else none) := rfl
theorem Dn {a b : Int} : Ab .fdiv (.int a) (.int b) = (if b = 0 then none else some (.int (a.fdiv b))) := rfl
theorem Dd {a b : Int} : Ab .mod (.int a) (.int b) = (if b = 0 then none else some (.int (a.fmod b))) := rfl
theorem De {a b : Int} : Ab .pow (.int a) (.int b) = (if 0 ≤ b ∧ (Builtin.Int.intBits a : Int) * b ≤ 2 ^ 27 then some (.int (a ^ b.toNat)) else none) := rfl
theorem Dp {x y : AV} : Ad .eq x y = eqAV x y := rfl
theorem Do {x y : AV} : Ad .ne x y = (eqAV x y).map (!·) := rfl
theorem Dr {a b : Int} : Ad .lt (.int a) (.int b) = some (decide (a < b)) := rfl
theorem Ds {a b : Int} : Ad .le (.int a) (.int b) = some (decide (a ≤ b)) := rfl
theorem Dt {a b : Int} : Ad .gt (.int a) (.int b) = some (decide (a > b)) := rfl
theorem Du {a b : Int} : Ad .ge (.int a) (.int b) = some (decide (a ≥ b)) := rfl
theorem Cv {a b : List Nat} : Ad .lt (.str a) (.str b) = some (Ht a b) := rfl
theorem Cw {a b : List Nat} : Ad .le (.str a) (.str b) = some (!Ht b a) := rfl
theorem Da {a b : List Nat} : Ad .gt (.str a) (.str b) = some (Ht b a) := rfl
theorem Db {a b : List Nat} : Ad .ge (.str a) (.str b) = some (!Ht a b) := rfl
theorem Cj {x : AV} {b : List AV} : Ad .isIn x (.tup b) = inAV x b := rfl
theorem Ci {x : AV} {b : List AV} : Ad .notIn x (.tup b) = (inAV x b).map (!·) := rfl
theorem Cf {x : AV} {b : List AV} : Ad .isIn x (.list b) = inAV x b := rfl
theorem Ce {x : AV} {b : List AV} : Ad .notIn x (.list b) = (inAV x b).map (!·) := rfl
theorem Bz {x : AV} {b : List Int} : Ad .isIn x (.ilist b) = inAV x (b.map .int) := rfl
theorem Ca {x : AV} {b : List Int} : Ad .notIn x (.ilist b) = (inAV x (b.map .int)).map (!·) := rfl
theorem Cb {y : AV} : Ad .isNone .none y = some true := rfl
theorem Bw {a : Int} {y : AV} : Ad .isNone (.int a) y = some false := rfl
theorem Bs {a : List Int} {y : AV} : Ad .isNone (.ilist a) y = some false := rfl
theorem Bt {a : List AV} {y : AV} : Ad .isNone (.list a) y = some false := rfl
theorem Bv {a : List AV} {y : AV} : Ad .isNone (.tup a) y = some false := rfl
theorem Bu {y : AV} : Ad .isNotNone .none y = some false := rfl
theorem Br {a : Int} {y : AV} : Ad .isNotNone (.int a) y = some true := rfl
theorem Bo {a : List Int} {y : AV} : Ad .isNotNone (.ilist a) y = some true := rfl
theorem Bp {a : List AV} {y : AV} : Ad .isNotNone (.list a) y = some true := rfl
theorem Bq {a : List AV} {y : AV} : Ad .isNotNone (.tup a) y = some true := rfl
theorem Dq {a b : Bool} : Ad .isNotBool (.bool a) (.bool b) = some (a != b) := rfl
theorem lim2 : (0 + 1 + 1 ≤ LIM) = True := eq_true (by decide)
theorem ZA {v x L z : Nat} (h : v = x) (k : x ≤ L) (l : L ≤ z) : v ≤ z := h ▸ Nat.le_trans k l
theorem ZB {v x L z : Nat} (h : v = x) (k : x < L) (l : L ≤ z) : v ≤ z := h ▸ Nat.le_of_lt (Nat.lt_of_lt_of_le k l)
theorem ZC {m n : Nat} (h : m ≤ n + 1) (k : ¬m = n + 1) : m ≤ n := Nat.le_of_lt_succ (Nat.lt_of_le_of_ne h k)
theorem ZD {m n : Nat} (h : m < n + 1) (k : ¬m = n) : m < n := Nat.lt_of_le_of_ne (Nat.le_of_lt_succ h) k
theorem ZE {m n : Nat} (h : m ≤ n) (k : ¬m < n) : m = n := Nat.le_antisymm h (Nat.le_of_not_lt k)
theorem ZF (n : Nat) : -(LIM : Int) ≤ (n : Int) := by lia
theorem ZG {o : Int} {P : Prop} (h : 0 ≤ o ∧ P) : o = (o.toNat : Int) := (Int.toNat_of_nonneg h.1).symm
theorem ZH {A : Prop} {z : Int} (h : A ∧ 0 ≤ z ∧ z ≤ 100) : z.toNat ≤ 1100 := by lia
theorem ZI {A B : Prop} {z : Int} (h : A ∧ 0 ≤ z ∧ B) : (z.toNat : Int) = z := Int.toNat_of_nonneg h.2.1
theorem ZJ {A : Prop} {z : Int} (h : A ∧ 0 ≤ z ∧ z ≤ 100) : 0 ≤ z ∧ z < 1000 := ⟨h.2.1, Int.lt_of_le_of_lt h.2.2 (by decide)⟩
theorem ZK {A B : Prop} {z : Int} (h : A ∧ B ∧ z ≤ 100) : z ≤ 1100 := Int.le_trans h.2.2 (by decide)
theorem ZL {B : Prop} {z : Nat} (h : z ≤ 1100 ∧ B) : (z : Int) ≤ 1100 := Int.ofNat_le.mpr h.1
theorem ZM {A : Prop} {z : Int} (h : A ∧ 0 ≤ z ∧ z ≤ 100) : z.toNat ≤ 100 := Int.toNat_le.mpr h.2.2
theorem ZN {v x L : Nat} (h : v = x) (k : x ≤ L) (l : L < 2 ^ 63) : (v : Int) < 2 ^ 63 := Int.ofNat_lt.mpr (h ▸ Nat.lt_of_le_of_lt k l)
theorem ZO {x L : Nat} (k : x ≤ L) (l : L < 2 ^ 63) : ¬(x : Int) ≥ 2 ^ 63 := Int.not_le.mpr (Int.ofNat_lt.mpr (Nat.lt_of_le_of_lt k l))
theorem ZP {x L : Nat} {i : Int} (k : x ≤ L) (l : L < 2 ^ 63) (h : i < x) : i < 2 ^ 63 := Int.lt_trans h (Int.ofNat_lt.mpr (Nat.lt_of_le_of_lt k l))
theorem ZQ {x L : Nat} {i : Int} (k : x ≤ L) (l : L < 2 ^ 63) (h : -(x : Int) ≤ i) : -2 ^ 63 ≤ i := by lia
theorem ZR {z : Nat} (h : z ≤ 1100) : (z : Int) ≤ 1100 := Int.ofNat_le.mpr h
theorem ZS {z : Nat} (h : 1 < z) : 1 < (z : Int) := Int.ofNat_lt.mpr h
theorem ZT {z : Nat} (h : ¬1 < z) : ¬1 < (z : Int) := mt Int.ofNat_lt.mp h
theorem ZU {a b c : Nat} (h : a + b ≤ c) (k : 0 < b) : a < c := Nat.lt_of_lt_of_le (Nat.lt_add_of_pos_right k) h
theorem ZV {a b c : Nat} (h : a + (b + 1) ≤ c) : a < c := Nat.lt_of_lt_of_le (Nat.lt_add_of_pos_right (Nat.succ_pos b)) h
theorem ZW {a b c : Nat} (h : a + (b + 1) ≤ c) : a + (0 + 1) + b ≤ c := by lia
theorem ZX {a b c d : Nat} (h : a + b + c ≤ d) : a ≤ d := Nat.le_trans (Nat.le_add_right a b) (Nat.le_trans (Nat.le_add_right _ c) h)
theorem ZY {a b c d e : Nat} (h : a + b + c + d ≤ e) : a ≤ e := ZX (Nat.le_trans (Nat.le_add_right _ d) h)
theorem ZZ {a b c : Nat} (h : a < b + 1) (k : c < a) : c < b := Nat.lt_of_lt_of_le k (Nat.le_of_lt_succ h)
theorem YA {i : Int} (h : 0 ≤ i) : -2 ^ 63 ≤ i := Int.le_trans (by decide) h
theorem YB {i : Int} (h : i < 0) : i < 2 ^ 63 := Int.lt_trans h (by decide)
theorem YC {i : Int} (h : i < 0) : -(i.natAbs : Int) = i := by lia
theorem YD {i : Int} (h : ¬i < 0) : (i.natAbs : Int) = i := by lia
theorem YE {i : Int} (h : 0 ≤ i) : (i.natAbs : Int) = i := by lia
theorem YF {a L : Nat} (h : a ≤ L) (k : L = 1048576) : (a : Int) ≤ L := Int.ofNat_le.mpr h
theorem YG {a n : Nat} (h : a ≤ 50) (k : n < a) : (n : Int) ≤ 100 := by lia
theorem YH (n : Nat) : ¬(n : Int) < 0 := Int.not_lt.mpr (Int.natCast_nonneg n)
theorem YI (a b : Nat) : a + 1 ≤ a + 3 + b := by lia
theorem YL {a n c : Nat} (h : a ≤ 50) (k : n + 1 ≤ a) (l : 50 ≤ c) : n ≤ c := Nat.le_trans (Nat.le_of_succ_le k) (Nat.le_trans h l)
theorem V8 {α : Type _} {a : α} {l : List α} : (a :: l)[0]? = some a := rfl
theorem V9 {α : Type _} {a : α} {l : List α} {i : Nat} : (a :: l)[i + 1]? = l[i]? := rfl
theorem W0 {α : Type _} {a b : α} {l : List α} : (a :: l).set 0 b = b :: l := rfl
theorem W1 {α : Type _} {a b : α} {l : List α} {i : Nat} : (a :: l).set (i + 1) b = a :: l.set i b := rfl
theorem W2 {α β : Type _} {f : α → β} {a : α} : (some a).map f = some (f a) := rfl
theorem W3 {α β : Type _} {f : α → Option β} {a : α} : (some a).bind f = f a := rfl
end Mine
end
section
open PySem PyProof.Rows
namespace Mine
set_option tactic.hygienic false
set_option autoImplicit false
noncomputable def Kp (fs : List Addr) (h h' : Heap) : Prop :=
  ∀ b o, h.get? b = some o → (b ∉ fs → h'.get? b = some o) ∧ ∃ sl, h'.get? b = some { o with slots := sl }
theorem Kp.refl (fs : List Addr) (h : Heap) : Kp fs h h := fun _ o e => ⟨fun _ => e, o.slots, e⟩
theorem Kp.of {fs : List Addr} {h h' : Heap} (k : ∀ b o, h.get? b = some o → h'.get? b = some o) : Kp fs h h' := fun b o e => ⟨fun _ => k b o e, o.slots, k b o e⟩
theorem Kp.trans {fs : List Addr} {h₁ h₂ h₃ : Heap} (x : Kp fs h₁ h₂) (y : Kp fs h₂ h₃) : Kp fs h₁ h₃ := fun b o e => by
  obtain ⟨x1, sl, x2⟩ := x b o e
  obtain ⟨_, sl', y2⟩ := y b _ x2
  exact ⟨fun hb => (y b o (x1 hb)).1 hb, sl', y2⟩
theorem Kp.push (fs : List Addr) (h : Heap) (o : Obj) : Kp fs h (h.push o) := .of fun _ _ e => Heap.get?_push_of_some _ e
theorem Kp.dom {fs : List Addr} {h h' : Heap} (x : Kp fs h h') {b : Addr} (e : h'.get? b = none) : h.get? b = none := by
  cases q : h.get? b with
  | none => rfl
  | some o => obtain ⟨_, sl, y⟩ := x b o q; rw [e] at y; cases y
theorem Kp.stay {fs : List Addr} {h h' : Heap} (x : Kp fs h h') {b : Addr} (e : h.get? b ≠ none) : h'.get? b ≠ none := fun q => e (x.dom q)
theorem Kp.ns {fs : List Addr} {h h' : Heap} (x : Kp fs h h') {a : Addr} {m : Str → Option Value} (n : h.Ns a m) : h'.Ns a m := by
  obtain ⟨o, es, ep, ho, hd, r⟩ := n
  obtain ⟨_, sl, y⟩ := x a o ho
  exact ⟨_, es, ep, y, hd, r⟩
theorem Kp.isCell {fs : List Addr} {h h' : Heap} (x : Kp fs h h') {c : Addr} {v : Option Value} (n : h.IsCell c v) : h'.IsCell c v := by
  obtain ⟨o, ho, hd⟩ := n
  obtain ⟨_, sl, y⟩ := x c o ho
  exact ⟨_, y, hd⟩
inductive KpS (fs : List Addr) (s s' : Shared) : Prop where
  | mk0 (h' : Heap) (tk : Nat) (e : s' = { s with heap := h', toks := tk }) (k : Kp fs s.heap h')
theorem KpS.refl (fs : List Addr) (s : Shared) : KpS fs s s := ⟨s.heap, s.toks, rfl, Kp.refl _ _⟩
theorem KpS.tok (fs : List Addr) (s : Shared) (t : Nat) : KpS fs s { s with toks := t } := ⟨s.heap, t, rfl, Kp.refl _ _⟩
theorem KpS.mk (fs : List Addr) (s : Shared) {h' : Heap} (t : Nat) (k : Kp fs s.heap h') : KpS fs s { s with heap := h', toks := t } := ⟨h', t, rfl, k⟩
theorem KpS.mk' (fs : List Addr) (s : Shared) {h' : Heap} (k : Kp fs s.heap h') : KpS fs s { s with heap := h' } := ⟨h', s.toks, rfl, k⟩
theorem KpS.trans {fs : List Addr} {s₁ s₂ s₃ : Shared} (x : KpS fs s₁ s₂) (y : KpS fs s₂ s₃) : KpS fs s₁ s₃ := by
  obtain ⟨h, tk, rfl, k⟩ := x
  obtain ⟨h', tk', rfl, k'⟩ := y
  exact ⟨h', tk', rfl, k.trans k'⟩
theorem KpS.heap {fs : List Addr} {s s' : Shared} (x : KpS fs s s') : Kp fs s.heap s'.heap := by
  obtain ⟨h, tk, rfl, k⟩ := x; exact k
set_option genCtorIdx false in
structure Cx where
  prog : Program
  w : World
  hG : Heap
  gt : List (Str × GK)
  G : Str → Option AV
  F : Nat → List AV → Option Res
  fa : Nat → Addr
  fresh : Nat → Bool
inductive SeqV (K : Addr → Array Value → Prop) (n : Nat) (P : List Value → Prop) (v : Value) : Prop where
  | mk (a : Addr) (vs : List Value) (e : v = .ref a) (hl : K a vs.toArray) (hz : n ≤ LIM) (hd : P vs)
inductive ConsV {α : Type} (P : α → Prop) (Q : List α → Prop) (vs : List α) : Prop where
  | mk (v : α) (t : List α) (e : vs = v :: t) (hp : P v) (hq : Q t)
noncomputable def DenI : List Int → List Value → Prop
  | [], vs => vs = []
  | x :: r, vs => ∃ t w, vs = .int x t :: w ∧ DenI r w
noncomputable def ND (h : Heap) (a : Addr) : Prop := ∃ o, h.get? a = some o ∧ o.dict = none
theorem ND.at {h h' : Heap} {a : Addr} (x : ND h a) (k : ∀ o, h.get? a = some o → h'.get? a = some o) : ND h' a := let ⟨o, e, d⟩ := x; ⟨o, k o e, d⟩
section
mutual
noncomputable def DenT (c : Cx) (h : Heap) (bad : Addr → Prop) : AV → Value → Prop
  | .none, v => v = .none
  | .bool b, v => v = .bool b
  | .int i, v => ∃ t, v = .int i t
  | .str x, v => x.length ≤ LIM ∧ ∃ t, v = .str ⟨x.toArray⟩ t
  | .ilist xs, v => SeqV h.IsList xs.length (DenI xs) v
  | .list xs, v => SeqV h.IsList xs.length (DenL c h bad xs) v
  | .tup xs, v => SeqV h.IsTuple xs.length (DenL c h bad xs) v
  | .plist xs, v => SeqV (fun a vs => h.IsList a vs ∧ ND h a) xs.length (DenI xs) v
noncomputable def DenL (c : Cx) (h : Heap) (bad : Addr → Prop) : List AV → List Value → Prop
  | [], vs => vs = []
  | x :: r, vs => ConsV (fun v => DenT c h bad x v ∧ ∀ a, v = .ref a → ¬ bad a) (DenL c h bad r) vs
end
variable (c : Cx)
noncomputable def Den (h : Heap) (bad : Addr → Prop) (x : AV) (v : Value) : Prop := DenT c h bad x v ∧ ∀ a, v = .ref a → ¬ bad a
noncomputable def DenR (h : Heap) (bad : Addr → Prop) (fs : List Addr) (x : AV) (v : Value) : Prop := DenT c h bad x v ∧ ∀ a, v = .ref a → a ∉ fs
end
section
variable {c : Cx} {h h' : Heap} {bad bad' : Addr → Prop} {fs : List Addr}
structure Ex (h h' : Heap) (bad bad' : Addr → Prop) : Prop where
  keep : ∀ b o, ¬ bad b → h.get? b = some o → h'.get? b = some o
  nb : ∀ b, ¬ bad b → h.get? b ≠ none → ¬ bad' b
theorem DenT.there : ∀ (x : AV) (a : Addr), DenT c h bad x (.ref a) → h.get? a ≠ none
  | .none, _, e => by simp [DenT] at e
  | .bool b, _, e => by simp [DenT] at e
  | .int i, _, e => by simp [DenT] at e
  | .str x, _, e => by simp [DenT] at e
  | .ilist xs, a, e => by
    simp only [DenT] at e
    obtain ⟨a', vs, q, ⟨o, ho, _⟩, _⟩ := e
    cases q; rw [ho]; simp
  | .list xs, a, e => by
    simp only [DenT] at e
    obtain ⟨a', vs, q, ⟨o, ho, _⟩, _⟩ := e
    cases q; rw [ho]; simp
  | .tup xs, a, e => by
    simp only [DenT] at e
    obtain ⟨a', vs, q, ⟨o, ho, _⟩, _⟩ := e
    cases q; rw [ho]; simp
  | .plist xs, a, e => by
    simp only [DenT] at e
    obtain ⟨a', vs, q, ⟨⟨o, ho, _⟩, _⟩, _⟩ := e
    cases q; rw [ho]; simp
mutual
theorem DenT.carryTop (k : Ex h h' bad bad') : ∀ (x : AV) (v : Value), DenT c h bad x v → (∀ a o, v = .ref a → h.get? a = some o → h'.get? a = some o) → DenT c h' bad' x v
  | .none, _, e, _ => by simpa only [DenT] using e
  | .bool b, _, e, _ => by simpa only [DenT] using e
  | .int i, _, e, _ => by simpa only [DenT] using e
  | .str x, _, e, _ => by simpa only [DenT] using e
  | .ilist xs, v, e, t => by
    simp only [DenT] at e ⊢
    obtain ⟨a, vs, rfl, hl, hs, hd⟩ := e
    exact ⟨a, vs, rfl, hl.at fun o q => t a o rfl q, hs, hd⟩
  | .list xs, v, e, t => by
    simp only [DenT] at e ⊢
    obtain ⟨a, vs, rfl, hl, hs, hd⟩ := e
    exact ⟨a, vs, rfl, hl.at fun o q => t a o rfl q, hs, DenL.carry k xs vs hd⟩
  | .tup xs, v, e, t => by
    simp only [DenT] at e ⊢
    obtain ⟨a, vs, rfl, hl, hs, hd⟩ := e
    exact ⟨a, vs, rfl, hl.at fun o q => t a o rfl q, hs, DenL.carry k xs vs hd⟩
  | .plist xs, v, e, t => by
    simp only [DenT] at e ⊢
    obtain ⟨a, vs, rfl, hl, hs, hd⟩ := e
    exact ⟨a, vs, rfl, ⟨hl.1.at fun o q => t a o rfl q, hl.2.at fun o q => t a o rfl q⟩, hs, hd⟩
theorem DenL.carry (k : Ex h h' bad bad') : ∀ (xs : List AV) (vs : List Value), DenL c h bad xs vs → DenL c h' bad' xs vs
  | [], _, e => by simpa only [DenL] using e
  | x :: r, vs, e => by
    simp only [DenL] at e ⊢
    obtain ⟨v, t, rfl, ⟨hd, hb⟩, hr⟩ := e
    refine ⟨v, t, rfl, ⟨DenT.carryTop k x v hd fun a o e q => k.keep a o (hb a e) q, fun a e => ?_⟩, DenL.carry k r t hr⟩
    subst e
    refine k.nb a (hb a rfl) ?_
    exact DenT.there x a hd
end
end
section
variable {c : Cx} {h h' : Heap} {bad bad' : Addr → Prop} {fs : List Addr}
theorem Den.carry {x : AV} {v : Value} (d : Den c h bad x v) (k : Ex h h' bad bad') : Den c h' bad' x v :=
  ⟨DenT.carryTop k x v d.1 fun a o e q => k.keep a o (d.2 a e) q, fun a e => k.nb a (d.2 a e) (by subst e; exact DenT.there x a d.1)⟩
theorem Ex.kp (k : Kp fs h h') (hf : ∀ b ∈ fs, bad b) : Ex h h' bad bad := ⟨fun b o hb e => (k b o e).1 fun q => hb (hf b q), fun _ hb _ => hb⟩
theorem Den.kp {x : AV} {v : Value} (d : Den c h bad x v) (k : Kp fs h h') (hf : ∀ b ∈ fs, bad b) : Den c h' bad x v := d.carry (.kp k hf)
theorem DenL.kp {xs : List AV} {vs : List Value} (d : DenL c h bad xs vs) (k : Kp fs h h') (hf : ∀ b ∈ fs, bad b) : DenL c h' bad xs vs := DenL.carry (.kp k hf) _ _ d
theorem DenR.kp {x : AV} {v : Value} (d : DenR c h bad fs x v) (k : Kp fs h h') (hf : ∀ b ∈ fs, bad b) : DenR c h' bad fs x v :=
  ⟨DenT.carryTop (.kp k hf) x v d.1 fun a o e q => (k a o q).1 (d.2 a e), d.2⟩
theorem Den.r {x : AV} {v : Value} (d : Den c h bad x v) (hf : ∀ b ∈ fs, bad b) : DenR c h bad fs x v := ⟨d.1, fun a e q => d.2 a e (hf a q)⟩
theorem DenR.den {x : AV} {v : Value} (d : DenR c h bad fs x v) (hb : ∀ a, v = .ref a → ¬ bad a) : Den c h bad x v := ⟨d.1, hb⟩
theorem Den.plain {x : AV} {v : Value} (d : DenT c h bad x v) (hv : ∀ a, v ≠ .ref a) : Den c h bad x v := ⟨d, fun a e => absurd e (hv a)⟩
theorem DenL.length : ∀ {xs : List AV} {vs : List Value}, DenL c h bad xs vs → vs.length = xs.length
  | [], vs, e => by simp only [DenL] at e; subst e; rfl
  | x :: r, vs, e => by
    simp only [DenL] at e
    obtain ⟨v, t, rfl, _, hr⟩ := e
    simp [hr.length]
theorem DenL.get : ∀ {xs : List AV} {vs : List Value}, DenL c h bad xs vs → ∀ {i : Nat} {x : AV}, xs[i]? = some x → ∃ v, vs[i]? = some v ∧ Den c h bad x v
  | [], vs, e, i, x, hx => by simp at hx
  | y :: r, vs, e, i, x, hx => by
    simp only [DenL] at e
    obtain ⟨v, t, rfl, hd, hr⟩ := e
    cases i with
    | zero => simp at hx; subst hx; exact ⟨v, rfl, hd⟩
    | succ i => simp at hx; obtain ⟨u, hu, hd⟩ := hr.get hx; exact ⟨u, by simpa using hu, hd⟩
theorem DenL.append : ∀ {xs ys : List AV} {vs ws : List Value}, DenL c h bad xs vs → DenL c h bad ys ws → DenL c h bad (xs ++ ys) (vs ++ ws)
  | [], ys, vs, ws, e, e' => by simp only [DenL] at e; subst e; exact e'
  | x :: r, ys, vs, ws, e, e' => by
    simp only [DenL, List.cons_append] at e ⊢
    obtain ⟨v, t, rfl, hd, hr⟩ := e
    exact ⟨v, t ++ ws, rfl, hd, hr.append e'⟩
theorem DenL.take : ∀ (n : Nat) {xs : List AV} {vs : List Value}, DenL c h bad xs vs → DenL c h bad (xs.take n) (vs.take n)
  | 0, xs, vs, _ => by simp [DenL]
  | n + 1, [], vs, e => by simp only [DenL] at e; subst e; simp [DenL]
  | n + 1, x :: r, vs, e => by
    simp only [DenL] at e
    obtain ⟨v, t, rfl, hd, hr⟩ := e
    simp only [List.take_succ_cons, DenL]
    exact ⟨v, _, rfl, hd, hr.take n⟩
theorem DenL.drop : ∀ (n : Nat) {xs : List AV} {vs : List Value}, DenL c h bad xs vs → DenL c h bad (xs.drop n) (vs.drop n)
  | 0, xs, vs, e => by simpa using e
  | n + 1, [], vs, e => by simp only [DenL] at e; subst e; simp [DenL]
  | n + 1, x :: r, vs, e => by
    simp only [DenL] at e
    obtain ⟨v, t, rfl, hd, hr⟩ := e
    simpa using hr.drop n
theorem DenI.length : ∀ {xs : List Int} {vs : List Value}, DenI xs vs → vs.length = xs.length
  | [], vs, e => by simp only [DenI] at e; subst e; rfl
  | x :: r, vs, e => by
    simp only [DenI] at e
    obtain ⟨v, t, rfl, hr⟩ := e
    simp [hr.length]
theorem DenI.get : ∀ {xs : List Int} {vs : List Value}, DenI xs vs → ∀ {i : Nat} {x : Int}, xs[i]? = some x → ∃ t, vs[i]? = some (.int x t)
  | [], vs, e, i, x, hx => by simp at hx
  | y :: r, vs, e, i, x, hx => by
    simp only [DenI] at e
    obtain ⟨t, w, rfl, hr⟩ := e
    cases i with
    | zero => simp at hx; subst hx; exact ⟨t, rfl⟩
    | succ i => simp at hx; obtain ⟨u, hu⟩ := hr.get hx; exact ⟨u, by simpa using hu⟩
theorem DenI.append : ∀ {xs ys : List Int} {vs ws : List Value}, DenI xs vs → DenI ys ws → DenI (xs ++ ys) (vs ++ ws)
  | [], ys, vs, ws, e, e' => by simp only [DenI] at e; subst e; exact e'
  | x :: r, ys, vs, ws, e, e' => by
    simp only [DenI, List.cons_append] at e ⊢
    obtain ⟨t, w, rfl, hr⟩ := e
    exact ⟨t, w ++ ws, rfl, hr.append e'⟩
theorem DenI.take : ∀ (n : Nat) {xs : List Int} {vs : List Value}, DenI xs vs → DenI (xs.take n) (vs.take n)
  | 0, xs, vs, _ => by simp [DenI]
  | n + 1, [], vs, e => by simp only [DenI] at e; subst e; simp [DenI]
  | n + 1, x :: r, vs, e => by
    simp only [DenI] at e
    obtain ⟨t, w, rfl, hr⟩ := e
    simp only [List.take_succ_cons, DenI]
    exact ⟨t, _, rfl, hr.take n⟩
theorem DenI.drop : ∀ (n : Nat) {xs : List Int} {vs : List Value}, DenI xs vs → DenI (xs.drop n) (vs.drop n)
  | 0, xs, vs, e => by simpa using e
  | n + 1, [], vs, e => by simp only [DenI] at e; subst e; simp [DenI]
  | n + 1, x :: r, vs, e => by
    simp only [DenI] at e
    obtain ⟨t, w, rfl, hr⟩ := e
    simpa using hr.drop n
theorem DenI.denL : ∀ {xs : List Int} {vs : List Value}, DenI xs vs → DenL c h bad (xs.map .int) vs
  | [], vs, e => by simp only [DenI] at e; subst e; simp [DenL]
  | x :: r, vs, e => by
    simp only [DenI] at e
    obtain ⟨t, w, rfl, hr⟩ := e
    simp only [List.map_cons, DenL]
    exact ⟨_, w, rfl, ⟨by simp [DenT], by intro a e; cases e⟩, hr.denL⟩
set_option tactic.hygienic true in
theorem DenI.of_denL : ∀ {ys : List AV} {xs : List Int} {vs : List Value}, Fm ys = some xs → DenL c h bad ys vs → DenI xs vs
  | [], xs, vs, e, d => by obtain rfl := Option.some.inj e; simpa only [DenL, DenI] using d
  | y :: r, xs, vs, e, d => by
    cases y <;> first | exact (nS e).elim | skip
    rw [io_c] at e
    rename_i i
    cases q : Fm r with
    | none => rw [q] at e; cases e
    | some is =>
      rw [q] at e
      simp at e; subst e
      simp only [DenL, DenT] at d
      obtain ⟨v, t, rfl, ⟨⟨tk, rfl⟩, _⟩, hr⟩ := d
      simp only [DenI]
      exact ⟨tk, t, rfl, DenI.of_denL q hr⟩
theorem Hr : ∀ {ys : List AV} {xs : List Int}, Fm ys = some xs → xs.length = ys.length
  | [], xs, e => by obtain rfl := Option.some.inj e; rfl
  | y :: r, xs, e => by
    cases y <;> first | exact (nS e).elim | skip
    rw [io_c] at e
    cases q : Fm r with
    | none => rw [q] at e; cases e
    | some is => rw [q] at e; simp at e; subst e; simp [Hr q]
theorem den_mkL {ys : List AV} {vs : List Value} {a : Addr} (hl : h.IsList a vs.toArray) (hd : DenL c h bad ys vs) (hs : ys.length ≤ LIM) : DenT c h bad (mkL ys) (.ref a) := by
  unfold mkL
  cases q : Fm ys with
  | none => simp only [DenT]; exact ⟨a, vs, rfl, hl, hs, hd⟩
  | some xs => simp only [DenT]; exact ⟨a, vs, rfl, hl, by rw [Hr q]; exact hs, DenI.of_denL q hd⟩
end
noncomputable def GlobIs (h : Heap) (x : Str) (v : Value) : Prop :=
  ∃ mg mb, h.Ns mainGlobals mg ∧ h.Ns builtinsNs mb ∧ (mg x = some v ∨ (mg x = none ∧ mb x = some v))
noncomputable def Ge (c : Cx) (x : Str) : GK → Value → Prop
  | .fn i _, v => v = .ref (c.fa i) ∧ ∃ o fd, c.hG.get? (c.fa i) = some o ∧ o.data = .func fd
  | .bi id, v => v = .builtin id
  | .ty n, v => v = .type n
  | .tab, v => ∀ av, c.G x = some av → Den c c.hG (fun _ => False) av v
set_option genCtorIdx false in
structure Cx.Ok (c : Cx) : Prop where
  glob : ∀ x k, c.gt.lookup x = some k → ∃ v, GlobIs c.hG x v ∧ Ge c x k v
  nolimit : c.hG.NoLimit
  seer : c.hG.NoSeer
  tree : c.prog.given.tree = none
  digits : ∃ mc, c.hG.Ns cStatics mc ∧ mc "sys.int_max_str_digits" = none
noncomputable def Ac (A : Around) : List Addr := (A.frames.getD []).filterMap (·.frame)
structure Room (A : Around) (d : Nat) : Prop where
  handled : A.handled = none
  depth : A.depth + d + 110 < recursionLimit
  units : A.units + 4 * d + 100 < cLine
  frames : ∃ env l, A.frames = some (env :: l) ∧ env.scope.isGenerator = false ∧ env.scope.isCoroutine = false ∧ env.builtins = builtinsNs ∧ env.globals = mainGlobals
noncomputable def Gz (env : Env) (h : Heap) (x : Str) (v : Value) : Prop :=
  (env.kindOf x = some .local ∧ ∃ m, h.Ns env.locals m ∧ m x = some v) ∨ (env.kindOf x = some .cell ∧ ∃ a, env.cells.lookup x = some a ∧ h.IsCell a (some v))
theorem Gz.kp {fs : List Addr} {env : Env} {h h' : Heap} {x : Str} {v : Value} (l : Gz env h x v) (k : Kp fs h h') : Gz env h' x v := by
  rcases l with ⟨e, m, n, q⟩ | ⟨e, a, q, n⟩
  · exact .inl ⟨e, m, k.ns n, q⟩
  · exact .inr ⟨e, a, q, k.isCell n⟩
noncomputable def FrOk (A : Around) (h : Heap) : Prop := ∀ l, A.frames = some l → ∀ env ∈ l, env.scope.kind ≠ .module ∧ ∃ L o, env.frame = some L ∧ h.get? L = some o ∧ ∀ vs, o.data ≠ .fields vs
theorem FrOk.kp {A : Around} {fs : List Addr} {h h' : Heap} (x : FrOk A h) (k : Kp fs h h') : FrOk A h' := fun l hl env he => by
  obtain ⟨h1, L, o, h2, h3, h4⟩ := x l hl env he
  obtain ⟨_, sl, h5⟩ := k L o h3
  exact ⟨h1, L, _, h2, h5, h4⟩
inductive VarV (c : Cx) (A : Around) (env : Env) (bad : Addr → Prop) (h : Heap) (x : Str) (own : Bool) (av : AV) : Prop where
  | mk (v : Value) (l : Gz env h x v) (d : DenR c h bad (Ac A) av v) (n : own = false → ∀ a, v = .ref a → ¬ bad a)
structure EVis (c : Cx) (A : Around) (ce : CE) (env : Env) (σ : St) (bad : Addr → Prop) (h : Heap) : Prop where
  kind : env.scope.kind = .function
  globs : env.globals = mainGlobals
  blts : env.builtins = builtinsNs
  gk : ∀ x, ce.scope.names.lookup x = some .globalImplicit → env.kindOf x = some .globalImplicit
  ck : ∀ x, ce.scope.names.lookup x = some .cell → env.kindOf x = some .cell ∧ ∃ a, env.cells.lookup x = some a
  ground : ∀ b o, c.hG.get? b = some o → h.get? b = some o
  badG : ∀ b, bad b → c.hG.get? b = none
  badD : ∀ b, bad b → h.get? b ≠ none
  fsb : ∀ b ∈ Ac A, bad b
  fr : FrOk A h
  n : ce.n = σ.length
  gt : ce.gt = c.gt
  vb : ∀ x i, ce.vm.lookup x = some i → i < ce.n
  var : ∀ x i own av, ce.vm.lookup x = some i → σ[i]? = some (some (own, av)) → VarV c A env bad h x own av
theorem EVis.kp {c : Cx} {A : Around} {ce : CE} {env : Env} {σ : St} {bad : Addr → Prop} {h h' : Heap} (x : EVis c A ce env σ bad h) (k : Kp (Ac A) h h') : EVis c A ce env σ bad h' where
  kind := x.kind
  globs := x.globs
  blts := x.blts
  gk := x.gk
  ck := x.ck
  ground := fun b o e => (k b o (x.ground b o e)).1 fun q => by first | exact (nN (x.badG b (x.fsb b q)) e).elim | (rw [x.badG b (x.fsb b q)] at e; cases e)
  badG := x.badG
  badD := fun b hb => k.stay (x.badD b hb)
  fsb := x.fsb
  fr := x.fr.kp k
  n := x.n
  gt := x.gt
  vb := x.vb
  var := fun y i own av h1 h2 => by
    obtain ⟨v, l, d, n⟩ := x.var y i own av h1 h2
    exact ⟨v, l.kp k, d.kp k x.fsb, n⟩
noncomputable def PE (c : Cx) (fs : List Addr) (bad : Addr → Prop) (cap fr : Bool) (s : Shared) (z : AV) (r : Value) (s' : Shared) : Prop :=
  KpS fs s s' ∧ DenR c s'.heap bad fs z r ∧ (cap = true → ∀ a, r = .ref a → ¬ bad a) ∧ (fr = true → ∀ a, r = .ref a → s.heap.get? a = none)
section
variable {c : Cx} {fs : List Addr} {bad : Addr → Prop} {cap fr : Bool} {s s' : Shared}
theorem PE.plain {z : AV} {r : Value} (k : KpS fs s s') (d : DenT c s'.heap bad z r) (hr : ∀ a, r ≠ .ref a) : PE c fs bad cap fr s z r s' :=
  ⟨k, ⟨d, fun a e => absurd e (hr a)⟩, fun _ a e => absurd e (hr a), fun _ a e => absurd e (hr a)⟩
theorem PE.int {i : Int} {t : Tok} (k : KpS fs s s') : PE c fs bad cap fr s (.int i) (.int i t) s' := .plain k (by simp [DenT]) (by intro a e; cases e)
theorem PE.bool {b : Bool} (k : KpS fs s s') : PE c fs bad cap fr s (.bool b) (.bool b) s' := .plain k (by simp [DenT]) (by intro a e; cases e)
theorem PE.vnone (k : KpS fs s s') : PE c fs bad cap fr s .none .none s' := .plain k (by simp [DenT]) (by intro a e; cases e)
theorem PE.str {x : List Nat} {t : Tok} (k : KpS fs s s') (hx : x.length ≤ LIM) : PE c fs bad cap fr s (.str x) (.str ⟨x.toArray⟩ t) s' := .plain k (by simp only [DenT]; exact ⟨hx, t, rfl⟩) (by intro a e; cases e)
theorem PE.there {z : AV} {r : Value} (k : KpS fs s s') (hf : ∀ b ∈ fs, bad b) (d : Den c s'.heap bad z r) : PE c fs bad cap false s z r s' :=
  ⟨k, d.r hf, fun _ => d.2, fun e => by cases e⟩
theorem PE.new {z : AV} {a : Addr} (k : KpS fs s s') (hf : ∀ b ∈ fs, bad b) (hb : ∀ b, bad b → s.heap.get? b ≠ none) (hn : s.heap.get? a = none) (d : DenT c s'.heap bad z (.ref a)) : PE c fs bad cap fr s z (.ref a) s' := by
  have nb : ¬ bad a := fun q => hb a q hn
  exact ⟨k, ⟨d, fun b e q => by cases e; exact nb (hf _ q)⟩, fun _ b e => by cases e; exact nb, fun _ b e => by cases e; exact hn⟩
end
end Mine
end
section
open PySem PyProof.Rows
namespace Mine
set_option tactic.hygienic false
set_option autoImplicit false
theorem lim_lt : LIM < 2 ^ 63 := by decide
theorem Ew : LIM ≤ sizeLine := by unfold sizeLine; decide
section
variable {c : Cx} {A : Around} {bad : Addr → Prop} {fs : List Addr} {s : Shared}
structure At (c : Cx) (A : Around) (bad : Addr → Prop) (fs : List Addr) (s : Shared) : Prop where
  ok : c.Ok
  room : Room A 0
  ground : ∀ b o, c.hG.get? b = some o → s.heap.get? b = some o
  badD : ∀ b, bad b → s.heap.get? b ≠ none
  fsb : ∀ b ∈ fs, bad b
theorem At.pylong (h : At c A bad fs s) : PylongRoom (model c.prog c.w) A s := by
  obtain ⟨env, l, h1, h2, h3, h4, h5⟩ := h.room.frames
  refine PylongRoom.of (h.ok.nolimit.keeps h.ground) (by have := h.room.depth; unfold Builtin.pylongFrames; lia) ?_
  exact SeerAt.of (h.ok.seer.keeps h.ground) h.ok.tree h1 h2 h3 h4 h5
theorem str_append (x y : List Nat) : (⟨x.toArray⟩ : Str) ++ (⟨y.toArray⟩ : Str) = ⟨(x ++ y).toArray⟩ := by
  show Str.append _ _ = _
  simp [Str.append]
theorem DenI.rep : ∀ (n : Nat) {xs : List Int} {vs : List Value}, DenI xs vs → DenI (List.replicate n xs).flatten (List.replicate n vs).flatten
  | 0, _, _, _ => by simp [DenI]
  | n + 1, xs, vs, h => by
    simp only [List.replicate_succ, List.flatten_cons]
    exact h.append (h.rep n)
theorem DenL.rep {h : Heap} : ∀ (n : Nat) {xs : List AV} {vs : List Value}, DenL c h bad xs vs → DenL c h bad (List.replicate n xs).flatten (List.replicate n vs).flatten
  | 0, _, _, _ => by simp [DenL]
  | n + 1, xs, vs, h => by
    simp only [List.replicate_succ, List.flatten_cons]
    exact h.append (h.rep n)
theorem Ba (h : Heap) : h.get? h.objs.size = none := Heap.get?_none_of_le (Nat.le_refl _)
theorem PE.newL {cap fr : Bool} {vs : List Value} {z : AV} {n : Nat} (a : At c A bad fs s) (hz : DenT c (s.heap.push { cls := .type "list", data := .seq vs.toArray n }) bad z (.ref s.heap.objs.size)) :
    PE c fs bad cap fr s z (.ref s.heap.objs.size) { s with heap := s.heap.push { cls := .type "list", data := .seq vs.toArray n } } :=
  .new (.mk' _ _ (Kp.push _ _ _)) a.fsb a.badD (Ba _) hz
theorem Bi (h : Heap) (vs : List Value) (n : Nat) : (h.push { cls := .type "list", data := .seq vs.toArray n }).IsList h.objs.size vs.toArray :=
  ⟨_, Heap.get?_push_size _ rfl, rfl, n, rfl⟩
theorem isTuple_push (h : Heap) (vs : List Value) (n : Nat) : (h.push { cls := .type "tuple", data := .seq vs.toArray n }).IsTuple h.objs.size vs.toArray :=
  ⟨_, Heap.get?_push_size _ rfl, rfl, n, rfl⟩
theorem Hn {l b : Addr} {vs ws : List Value} {Q : Value → Shared → Prop} {E : Value → Shared → Prop} (hl : s.heap.IsList l vs.toArray) (hb : s.heap.IsList b ws.toArray)
    (h : Q (.ref s.heap.objs.size) { s with heap := s.heap.push { cls := .type "list", data := .seq (vs ++ ws).toArray } }) (hsz : vs.length + ws.length ≤ sizeLine) :
    wpAny (model c.prog c.w) A (binaryOp .Add (.ref l) (.ref b)) Q E s := by
  obtain ⟨⟨cls, dd, data, sl⟩, ho, hc, n, hd⟩ := id hl
  obtain ⟨⟨cls2, dd2, data2, sl2⟩, ho2, hc2, n2, hd2⟩ := id hb
  simp only at hc hd hc2 hd2
  subst hc hd hc2 hd2
  have e : vs.toArray ++ ws.toArray = (vs ++ ws).toArray := by simp
  refine concat_meets ⟨_, ho, rfl⟩ ⟨_, ho2, rfl⟩ noFill_list_add seq_list_add PySem.F.slot_list_add PySem.F.entry_list_add (PySem.F.args_list_add_2 _ _) (list_addW l b vs.toArray ws.toArray n n2 dd dd2 sl sl2 (by simpa using hsz)) ⟨ho, ho2, ?_⟩
  rw [e]
  exact h
theorem mul_list_ok {l : Addr} {vs : List Value} {x : Int} {u : Tok} {Q : Value → Shared → Prop} {E : Value → Shared → Prop} (hl : s.heap.IsList l vs.toArray)
    (hlo : -(2 ^ 63 : Int) ≤ x) (hhi : x < 2 ^ 63) (hsz : vs.length * x.toNat ≤ 2 ^ 24)
    (h : Q (.ref s.heap.objs.size) { s with heap := s.heap.push { cls := .type "list", data := .seq (List.replicate x.toNat vs).flatten.toArray } }) :
    wpAny (model c.prog c.w) A (binaryOp .Mult (.ref l) (.int x u)) Q E s := by
  obtain ⟨⟨cls, d, data, sl⟩, ho, hcl, k, hd⟩ := id hl
  simp only at hcl hd
  subst hcl hd
  have hsz' : vs.toArray.size * x.toNat ≤ 2 ^ 24 := by simpa using hsz
  refine wpAny_binaryOp_repeat_ref (T := "list") (U := "int") (by decide) ⟨_, ho, rfl⟩ (fun s' => typeIs_int s' x u) noFill_list_mul F.fills_int_mul F.slot_int_rmul repeat_list F.slot_int_index.lookup
    (call_meets F.slot_int_rmul (typeIs_int s x u) F.entry_int_rmul (F.args_int_rmul_2 _ _) (lm_int_rmul_list_any x u l vs.toArray k d sl)
      ⟨ho, rfl, ⟨_, ho, rfl⟩, call_meets F.slot_list_mul ⟨_, ho, rfl⟩ F.entry_list_mul (F.args_list_mul_2 _ _)
        (lm_list_mul_any l vs.toArray k d sl x u (by simp [Builtin.List.listFitsIndex]; lia) (by lia) (by simp [Builtin.List.listTooLong, sizeLine]; assumption))
        ⟨ho, ?_⟩⟩)
  rw [listMul_foldl_if]
  exact h
theorem kpush {o : Obj} : KpS fs s { s with heap := s.heap.push o } := .mk' _ _ (Kp.push _ _ _)
noncomputable def opOf : BOp → Operator
  | .add => .Add | .sub => .Sub | .mul => .Mult | .fdiv => .FloorDiv | .mod => .Mod | .pow => .Pow
theorem DenL.push {h : Heap} {xs : List AV} {vs : List Value} (d : DenL c h bad xs vs) (o : Obj) : DenL c (h.push o) bad xs vs :=
  DenL.carry ⟨fun b o' _ e => Heap.get?_push_of_some _ e, fun _ hb _ => hb⟩ _ _ d
theorem flat_foldl (n : Nat) (x : List Nat) : ∀ acc : Array Nat, (List.replicate n x.toArray).foldl (· ++ ·) acc = acc ++ (List.replicate n x).flatten.toArray := by
  induction n with
  | zero => intro acc; simp
  | succ n ih => intro acc; simp only [List.replicate_succ, List.foldl_cons, ih, List.flatten_cons]; simp
set_option tactic.hygienic true in
theorem txt_mul (x : List Nat) (n : Int) (h : 0 ≤ n) : Txt.mul ⟨x.toArray⟩ n = ⟨(List.replicate n.toNat x).flatten.toArray⟩ := by
  unfold Txt.mul
  by_cases h1 : n < 1
  · rw [if_pos h1]
    have : n.toNat = 0 := by lia
    rw [this]; rfl
  · rw [if_neg h1]
    split
    · rename_i q
      simp only [Bool.or_eq_true, beq_iff_eq, Str.length, List.size_toArray] at q
      rcases q with q | q
      · subst q; simp
      · have : x = [] := List.eq_nil_of_length_eq_zero q
        subst this; simp
    · rw [flat_foldl]; simp
theorem mul_ok_str {x : List Nat} {n : Int} (h0 : 0 ≤ n) (h1 : n ≤ LIM) (h2 : x.length * n.toNat ≤ LIM) : MulOk ⟨x.toArray⟩ n := by
  have e : (LIM : Int) = 1048576 := rfl
  refine ⟨?_, fun h3 _ => ?_, fun h3 _ => ?_⟩
  · simp; lia
  · simp only [Str.length, List.size_toArray]
    have h4 : (x.length : Int) * n ≤ LIM := by
      have : ((x.length * n.toNat : Nat) : Int) ≤ (LIM : Int) := by exact_mod_cast h2
      rw [Int.natCast_mul, Int.toNat_of_nonneg h0] at this; exact this
    have h5 : (x.length : Int) ≤ 1048576 := by
      have : (x.length : Int) * 1 ≤ (x.length : Int) * n := Int.mul_le_mul_of_nonneg_left (by exact Int.not_lt.mp ‹_›) (by exact Int.natCast_nonneg _)
      lia
    have h6 : (1048576 : Int) ≤ (2 ^ 63 - 1) / n := by
      apply Int.le_ediv_of_mul_le (by lia)
      lia
    lia
  · simp only [Builtin.Str.tooLong, Str.length, List.size_toArray, decide_eq_false_iff_not, Nat.not_lt]
    have := Ew
    with_reducible exact Nat.le_trans ‹_› ‹_›
theorem binop_ok {op : BOp} {x y z : AV} {v u : Value} (a : At c A bad fs s) (e : Ab op x y = some z) (dx : DenR c s.heap bad fs x v) (dy : DenR c s.heap bad fs y u) (cap fr : Bool) :
    wpAny (model c.prog c.w) A (binaryOp (opOf op) v u) (PE c fs bad cap fr s z) (fun _ _ => False) s := by
  have dx := dx.1
  have dy := dy.1
  have hline := Ew
  cases op <;> cases x <;> first | exact (nS e).elim | (cases y <;> first | exact (nS e).elim | skip)
  · -- int + int
    simp only [DenT] at dx dy; obtain ⟨t, rfl⟩ := dx; obtain ⟨t', rfl⟩ := dy; obtain rfl := Option.some.inj e
    exact P.add_int (.int (.tok ..))
  · -- str + str
    obtain ⟨hlen, rfl⟩ := iS e
    simp only [DenT] at dx dy; obtain ⟨h1, t, rfl⟩ := dx; obtain ⟨h2, t', rfl⟩ := dy
    refine add_str (fun t' tk => ?_) (by simp only [Str.length, List.size_toArray]; with_reducible exact Nat.le_trans ‹_› ‹_›)
    rw [str_append]
    exact .str (.tok ..) (by simpa using hlen)
  · obtain ⟨hlen, rfl⟩ := iS e
    simp only [DenT] at dx dy
    obtain ⟨p, vs, rfl, hl, h1, hd⟩ := dx; obtain ⟨q, ws, rfl, hl', h2, hd'⟩ := dy
    refine Hn hl hl' ?_ (by rw [hd.length, hd'.length]; with_reducible exact Nat.le_trans ‹_› ‹_›)
    refine PE.newL a ?_
    simp only [DenT]
    exact ⟨_, _, rfl, Bi .., by simpa using hlen, hd.append hd'⟩
  · obtain ⟨hlen, rfl⟩ := iS e
    simp only [DenT] at dx dy
    obtain ⟨p, vs, rfl, hl, h1, hd⟩ := dx; obtain ⟨q, ws, rfl, hl', h2, hd'⟩ := dy
    refine Hn hl hl' ?_ (by rw [hd.length, hd'.length]; with_reducible exact Nat.le_trans ‹_› ‹_›)
    refine PE.newL a ?_
    simp only [DenT]
    exact ⟨_, _, rfl, Bi .., by simpa using hlen, (hd.denL.append hd').push _⟩
  · obtain ⟨hlen, rfl⟩ := iS e
    simp only [DenT] at dx dy
    obtain ⟨p, vs, rfl, hl, h1, hd⟩ := dx; obtain ⟨q, ws, rfl, hl', h2, hd'⟩ := dy
    refine Hn hl hl' ?_ (by rw [hd.length, hd'.length]; with_reducible exact Nat.le_trans ‹_› ‹_›)
    refine PE.newL a ?_
    simp only [DenT]
    exact ⟨_, _, rfl, Bi .., by simpa using hlen, (hd.append hd'.denL).push _⟩
  · obtain ⟨hlen, rfl⟩ := iS e
    simp only [DenT] at dx dy
    obtain ⟨p, vs, rfl, hl, h1, hd⟩ := dx; obtain ⟨q, ws, rfl, hl', h2, hd'⟩ := dy
    refine Hn hl hl' ?_ (by rw [hd.length, hd'.length]; with_reducible exact Nat.le_trans ‹_› ‹_›)
    refine PE.newL a ?_
    simp only [DenT]
    exact ⟨_, _, rfl, Bi .., by simpa using hlen, (hd.append hd').push _⟩
  · simp only [DenT] at dx dy; obtain ⟨t, rfl⟩ := dx; obtain ⟨t', rfl⟩ := dy; obtain rfl := Option.some.inj e
    exact P.sub_int (.int (.tok ..))
  · obtain ⟨hm, rfl⟩ := iS e
    simp only [DenT] at dx dy; obtain ⟨t, rfl⟩ := dx; obtain ⟨t', rfl⟩ := dy
    refine P.mul_int (.int (.tok ..)) ?_
    unfold IntMulOk
    intro q
    unfold Be at hm
    rw [q] at hm
    cases hm
  · -- str * int
    obtain ⟨hlen, rfl⟩ := iS e
    simp only [DenT] at dx dy; obtain ⟨h1, t, rfl⟩ := dx; obtain ⟨t', rfl⟩ := dy
    exact SB.mul (mul_ok_str hlen.1 hlen.2.1 hlen.2.2) fun t' k => by rw [txt_mul _ _ hlen.1]; exact .str (.tok ..) (by rw [lm_len_rep_flat, Nat.mul_comm]; exact hlen.2.2)
  · obtain ⟨hlen, rfl⟩ := iS e
    simp only [DenT] at dx dy
    obtain ⟨p, vs, rfl, hl, h1, hd⟩ := dx; obtain ⟨t', rfl⟩ := dy
    have := hlen.2.1
    have hz := hlen.2.2
    rw [← hd.length] at hz
    refine mul_list_ok hl (by lia) (by have := lim_lt; lia) (Nat.le_trans hz (show LIM ≤ 2 ^ 24 by decide)) ?_
    refine PE.newL a ?_
    simp only [DenT]
    exact ⟨_, _, rfl, Bi .., by rw [lm_len_rep_flat, Nat.mul_comm]; exact hlen.2.2, hd.rep _⟩
  · obtain ⟨hlen, rfl⟩ := iS e
    simp only [DenT] at dx dy
    obtain ⟨p, vs, rfl, hl, h1, hd⟩ := dx; obtain ⟨t', rfl⟩ := dy
    have := hlen.2.1
    have hz := hlen.2.2
    rw [← hd.length] at hz
    refine mul_list_ok hl (by lia) (by have := lim_lt; lia) (Nat.le_trans hz (show LIM ≤ 2 ^ 24 by decide)) ?_
    refine PE.newL a ?_
    simp only [DenT]
    exact ⟨_, _, rfl, Bi .., by rw [lm_len_rep_flat, Nat.mul_comm]; exact hlen.2.2, (hd.rep _).push _⟩
  · obtain ⟨hb, rfl⟩ := iN e
    simp only [DenT] at dx dy; obtain ⟨t, rfl⟩ := dx; obtain ⟨t', rfl⟩ := dy
    exact floordiv_int hb (.int (.tok ..)) (.inr a.pylong)
  · obtain ⟨hb, rfl⟩ := iN e
    simp only [DenT] at dx dy; obtain ⟨t, rfl⟩ := dx; obtain ⟨t', rfl⟩ := dy
    exact mod_int' hb (.int (.tok ..))
  · obtain ⟨hb, rfl⟩ := iS e
    simp only [DenT] at dx dy; obtain ⟨t, rfl⟩ := dx; obtain ⟨t', rfl⟩ := dy
    exact pow_int hb.1 hb.2 (.int (.tok ..))
end
end Mine
end
section
open PySem PyProof.Rows PySem.SeqAt
namespace Mine
set_option tactic.hygienic false
set_option autoImplicit false
section
variable {c : Cx} {A : Around} {bad : Addr → Prop} {fs : List Addr} {s : Shared}
theorem readsI {h : Heap} : ∀ {xs : List Int} {vs : List Value}, DenI xs vs → ReadsAll h vs (xs.map .int) []
  | [], vs, e => by simp only [DenI] at e; subst e; exact .nil
  | x :: r, vs, e => by
    simp only [DenI] at e
    obtain ⟨t, w, rfl, hr⟩ := e
    have := ReadsAll.cons (Reads.int (h := h) x t) (readsI hr)
    simpa using this
mutual
theorem Er {h : Heap} : ∀ (x : AV) (n : Nat) (v : Value), okA n x = true → DenT c h bad x v → ∃ as, Reads h v (toD x) as
  | .none, _, v, _, d => by simp only [DenT] at d; subst d; exact ⟨_, .none⟩
  | .bool b, _, v, _, d => by simp only [DenT] at d; subst d; exact ⟨_, .bool b⟩
  | .int i, _, v, _, d => by simp only [DenT] at d; obtain ⟨t, rfl⟩ := d; exact ⟨_, .int i t⟩
  | .str _, _, v, k, _ => by simp [okA] at k
  | .plist _, _, v, k, _ => by simp [okA] at k
  | .ilist xs, _, v, _, d => by
    simp only [DenT] at d
    obtain ⟨a, vs, rfl, ⟨o, ho, hc, n, hd⟩, _, hi⟩ := d
    exact ⟨_, .list ho hc hd (by simpa using readsI hi)⟩
  | .list xs, n, v, k, d => by
    simp only [DenT] at d
    obtain ⟨a, vs, rfl, ⟨o, ho, hc, m, hd⟩, _, hi⟩ := d
    simp only [okA, Bool.and_eq_true] at k
    obtain ⟨as, r⟩ := Jv xs (n - 1) vs k.2 hi
    exact ⟨_, .list ho hc hd (by simpa using r)⟩
  | .tup xs, n, v, k, d => by
    simp only [DenT] at d
    obtain ⟨a, vs, rfl, ⟨o, ho, hc, m, hd⟩, _, hi⟩ := d
    simp only [okA, Bool.and_eq_true] at k
    obtain ⟨as, r⟩ := Jv xs (n - 1) vs k.2 hi
    exact ⟨_, .tuple ho hc hd (by simpa using r)⟩
theorem Jv {h : Heap} : ∀ (xs : List AV) (n : Nat) (vs : List Value), okAs n xs = true → DenL c h bad xs vs → ∃ as, ReadsAll h vs (toDs xs) as
  | [], _, vs, _, d => by simp only [DenL] at d; subst d; exact ⟨_, .nil⟩
  | x :: r, n, vs, k, d => by
    simp only [DenL] at d
    obtain ⟨v, t, rfl, ⟨dv, _⟩, dr⟩ := d
    simp only [okAs, Bool.and_eq_true] at k
    obtain ⟨as, ra⟩ := Er x n v k.1 dv
    obtain ⟨bs, rb⟩ := Jv r n t k.2 dr
    exact ⟨_, .cons ra rb⟩
end
theorem canInts : ∀ xs : List Int, PyData.canLayAll0 (xs.map .int) = true
  | [] => by simp [PyData.canLayAll0]
  | x :: r => by simp [PyData.canLayAll0, PyData.canLay0, canInts r]
theorem depInts : ∀ xs : List Int, PyData.depthAll (xs.map .int) ≤ 1
  | [] => by simp [PyData.depthAll]
  | x :: r => by
    have := depInts r
    simp only [List.map_cons, PyData.depthAll, PyData.depth]; lia
mutual
theorem can_of : ∀ (x : AV) (n : Nat), okA n x = true → (toD x).canLay0 = true ∧ (toD x).depth ≤ n + 1
  | .none, n, _ => by simp [toD, PyData.canLay0, PyData.depth]
  | .bool _, n, _ => by simp [toD, PyData.canLay0, PyData.depth]
  | .int _, n, _ => by simp [toD, PyData.canLay0, PyData.depth]
  | .str _, _, k => by simp [okA] at k
  | .plist _, _, k => by simp [okA] at k
  | .ilist xs, n, k => by
    simp only [okA, decide_eq_true_eq] at k
    have := depInts xs
    simp only [toD, PyData.canLay0, PyData.depth]
    exact ⟨canInts xs, by lia⟩
  | .list xs, n, k => by
    simp only [okA, Bool.and_eq_true, decide_eq_true_eq] at k
    have := can_ofs xs (n - 1) k.2
    simp only [toD, PyData.canLay0, PyData.depth]
    exact ⟨this.1, by lia⟩
  | .tup xs, n, k => by
    simp only [okA, Bool.and_eq_true, decide_eq_true_eq] at k
    have := can_ofs xs (n - 1) k.2
    simp only [toD, PyData.canLay0, PyData.depth]
    exact ⟨this.1, by lia⟩
theorem can_ofs : ∀ (xs : List AV) (n : Nat), okAs n xs = true → PyData.canLayAll0 (toDs xs) = true ∧ PyData.depthAll (toDs xs) ≤ n + 1
  | [], n, _ => by simp [toDs, PyData.canLayAll0, PyData.depthAll]
  | x :: r, n, k => by
    simp only [okAs, Bool.and_eq_true] at k
    have h1 := can_of x n k.1
    have h2 := can_ofs r n k.2
    simp only [toDs, PyData.canLayAll0, PyData.depthAll, Bool.and_eq_true]
    exact ⟨⟨h1.1, h2.1⟩, by lia⟩
end
theorem Ft {x : AV} (k : okA 60 x = true) : shaped (toD x) = true := by
  have := can_of x 60 k
  unfold shaped
  simp only [Bool.and_eq_true, decide_eq_true_eq]
  exact ⟨this.1, by lia⟩
set_option tactic.hygienic true in
theorem Hd {x : AV} {b : Bool} {v : Value} (a : At c A bad fs s) (e : Aa x = some b) (d : DenR c s.heap bad fs x v) {Q : Bool → Shared → Prop} {E : Value → Shared → Prop} (h : ∀ s', KpS fs s s' → Q b s') :
    wpAny (model c.prog c.w) A (PySem.truthy v) Q E s := by
  have d := d.1
  have hl := lim_lt
  cases x <;> simp only [Aa] at e <;> first | (cases e; done) | skip
  · simp only [DenT] at d; subst d; cases e; exact fun _ _ _ => h _ (.refl ..)
  · simp only [DenT] at d; subst d; cases e; exact wpAny_truthy_bool (h _ (.refl ..))
  · simp only [DenT] at d; obtain ⟨t, rfl⟩ := d; cases e; exact P.truthy_int (h _ (.refl ..))
  · simp only [DenT] at d; obtain ⟨h1, t, rfl⟩ := d; cases e
    rename_i x
    refine P.truthy_str (by simp only [Str.length, List.size_toArray]; with_reducible exact ZO ‹_› ‹_›) ?_
    have q : (((⟨x.toArray⟩ : Str).length : Int) != 0) = !x.isEmpty := by
      cases x <;> simp [Str.length]
      lia
    rw [q]; exact h _ (.tok ..)
  · simp only [DenT] at d; obtain ⟨p, vs, rfl, hp, h1, hd⟩ := d; cases e
    rename_i xs
    have h2 := hd.length
    refine wpAny_truthy_list hp (by simp only [List.size_toArray]; with_reducible exact ZN ‹_› ‹_› ‹_›) ?_
    have q : (!vs.toArray.isEmpty) = !xs.isEmpty := by
      cases xs <;> cases vs <;> simp_all
    rw [q]; exact h _ (.tok ..)
  · simp only [DenT] at d; obtain ⟨p, vs, rfl, hp, h1, hd⟩ := d; cases e
    rename_i xs
    have h2 := hd.length
    refine wpAny_truthy_list hp (by simp only [List.size_toArray]; with_reducible exact ZN ‹_› ‹_› ‹_›) ?_
    have q : (!vs.toArray.isEmpty) = !xs.isEmpty := by
      cases xs <;> cases vs <;> simp_all
    rw [q]; exact h _ (.tok ..)
noncomputable def Gf : COp → CmpOp
  | .eq => .Eq | .ne => .NotEq | .lt => .Lt | .le => .LtE | .gt => .Gt | .ge => .GtE | .isIn => .In | .notIn => .NotIn
  | .isNone => .Is | .isNotNone => .IsNot | .isNotBool => .IsNot
theorem It : ∀ a b : List Nat, Ht a b = decide (a < b)
  | _, [] => by cases ‹List Nat› <;> simp [Ht]
  | [], _ :: _ => by simp [Ht]
  | a :: r, b :: t => by
    simp only [Ht, It r t]
    by_cases h : a < b
    · simp [h, List.cons_lt_cons_iff]
    · by_cases h' : b < a
      · have : a ≠ b := by exact Nat.ne_of_gt ‹_›
        simp [h, h', this, List.cons_lt_cons_iff]
      · have : a = b := by lia
        subst this
        simp [List.cons_lt_cons_iff]
set_option tactic.hygienic true in
theorem eqAV_ok {x y : AV} {r : Bool} {v u : Value} (a : At c A bad fs s) (e : eqAV x y = some r) (dx : DenR c s.heap bad fs x v) (dy : DenR c s.heap bad fs y u) {Q : Value → Shared → Prop} {E : Value → Shared → Prop} (h : Q (.bool r) s) :
    wpAny (model c.prog c.w) A (compareOp .Eq v u) Q E s := by
  have dx := dx.1
  have dy := dy.1
  have hu : A.units + 64 < cLine := by have := a.room.units; lia
  unfold eqAV at e
  split at e
  · simp only [DenT] at dx dy; obtain ⟨t, rfl⟩ := dx; obtain ⟨t', rfl⟩ := dy; cases e; exact P.eq_int h
  · simp only [DenT] at dx dy; subst dx dy; cases e; exact PyProof.Rows.eq_bool h
  · simp only [DenT] at dx dy; obtain ⟨_, t, rfl⟩ := dx; obtain ⟨_, t', rfl⟩ := dy; cases e
    refine P.eq_str ?_
    simpa using h
  · cases e
    obtain ⟨as, ra⟩ := Er _ 60 v rfl dx
    obtain ⟨bs, rb⟩ := Er _ 60 u rfl dy
    refine eq_dataH ra rb (Ft rfl) (Ft rfl) hu ?_
    have q : ∀ xs ys : List Int, PyData.eqvAll (xs.map PyData.int) (ys.map PyData.int) = (xs == ys) := by
      intro xs
      induction xs with
      | nil => intro ys; cases ys <;> simp [PyData.eqvAll]
      | cons a r ih => intro ys; cases ys with
        | nil => simp [PyData.eqvAll]
        | cons b t => simp only [List.map_cons, PyData.eqvAll, PyData.eqv, ih]; rfl
    simp only [toD, PyData.eqv, q]
    exact h
  · split at e <;> cases e
    rename_i k
    simp only [Bool.and_eq_true] at k
    obtain ⟨as, ra⟩ := Er _ 60 v k.1 dx
    obtain ⟨bs, rb⟩ := Er _ 60 u k.2 dy
    exact eq_dataH ra rb (Ft k.1) (Ft k.2) hu h
set_option tactic.hygienic true in
theorem neAV_ok {x y : AV} {r : Bool} {v u : Value} (a : At c A bad fs s) (e : eqAV x y = some r) (dx : DenR c s.heap bad fs x v) (dy : DenR c s.heap bad fs y u) {Q : Value → Shared → Prop} {E : Value → Shared → Prop} (h : Q (.bool (!r)) s) :
    wpAny (model c.prog c.w) A (compareOp .NotEq v u) Q E s := by
  have dx := dx.1
  have dy := dy.1
  have hu : A.units + 64 < cLine := by have := a.room.units; lia
  unfold eqAV at e
  split at e
  · simp only [DenT] at dx dy; obtain ⟨t, rfl⟩ := dx; obtain ⟨t', rfl⟩ := dy; cases e; exact P.ne_int h
  · simp only [DenT] at dx dy; subst dx dy; cases e; exact PyProof.Rows.ne_bool h
  · simp only [DenT] at dx dy; obtain ⟨_, t, rfl⟩ := dx; obtain ⟨_, t', rfl⟩ := dy; cases e
    refine P.ne_str ?_
    exact h
  · cases e
    obtain ⟨as, ra⟩ := Er _ 60 v rfl dx
    obtain ⟨bs, rb⟩ := Er _ 60 u rfl dy
    refine ne_dataH ra rb (Ft rfl) (Ft rfl) hu ?_
    have q : ∀ xs ys : List Int, PyData.eqvAll (xs.map PyData.int) (ys.map PyData.int) = (xs == ys) := by
      intro xs
      induction xs with
      | nil => intro ys; cases ys <;> simp [PyData.eqvAll]
      | cons a r ih => intro ys; cases ys with
        | nil => simp [PyData.eqvAll]
        | cons b t => simp only [List.map_cons, PyData.eqvAll, PyData.eqv, ih]; rfl
    simp only [toD, PyData.eqv, q]
    exact h
  · split at e <;> cases e
    rename_i k
    simp only [Bool.and_eq_true] at k
    obtain ⟨as, ra⟩ := Er _ 60 v k.1 dx
    obtain ⟨bs, rb⟩ := Er _ 60 u k.2 dy
    exact ne_dataH ra rb (Ft k.1) (Ft k.2) hu h
theorem toDs_map : ∀ xs : List Int, toDs (xs.map AV.int) = xs.map PyData.int
  | [] => by simp [toDs]
  | x :: r => by simp [toDs, toD, toDs_map r]
set_option tactic.hygienic true in
theorem Jl {x : AV} {y : AV} {ys : List AV} {r : Bool} {v u : Value} (a : At c A bad fs s) (hy : y = .tup ys ∨ y = .list ys ∨ ∃ is, y = .ilist is ∧ ys = is.map .int) (e : inAV x ys = some r) (dx : DenR c s.heap bad fs x v) (dy : DenR c s.heap bad fs y u)
    {Q : Value → Shared → Prop} {E : Value → Shared → Prop} : (Q (.bool r) s → wpAny (model c.prog c.w) A (compareOp .In v u) Q E s) ∧ (Q (.bool (!r)) s → wpAny (model c.prog c.w) A (compareOp .NotIn v u) Q E s) := by
  have dx := dx.1
  have dy := dy.1
  unfold inAV at e
  split at e <;> cases e
  rename_i k
  simp only [Bool.and_eq_true] at k
  obtain ⟨as, ra⟩ := Er _ 60 v k.1 dx
  have h1 := can_of x 60 k.1
  have h2 := can_ofs ys 60 k.2
  have hu : A.units + 1 + min (PyData.depthAll (toDs ys)) (toD x).depth < cLine := by have := a.room.units; have := Nat.min_le_right (PyData.depthAll (toDs ys)) (toD x).depth; lia
  rcases hy with rfl | rfl | ⟨is, rfl, rfl⟩
  · have k' : okA 61 (.tup ys) = true := by simp [okA, k.2]
    obtain ⟨bs, rb⟩ := Er _ 61 u k' dy
    simp only [toD] at rb
    exact ⟨fun h => in_tuple_reads rb ra h2.1 h1.1 hu h, fun h => notIn_tuple_reads rb ra h2.1 h1.1 hu h⟩
  · have k' : okA 61 (.list ys) = true := by simp [okA, k.2]
    obtain ⟨bs, rb⟩ := Er _ 61 u k' dy
    simp only [toD] at rb
    exact ⟨fun h => in_list_reads rb ra h2.1 h1.1 hu h, fun h => notIn_list_reads rb ra h2.1 h1.1 hu h⟩
  · obtain ⟨bs, rb⟩ := Er (.ilist is) 60 u rfl dy
    simp only [toD, ← toDs_map] at rb
    exact ⟨fun h => in_list_reads rb ra h2.1 h1.1 hu h, fun h => notIn_list_reads rb ra h2.1 h1.1 hu h⟩
end
end Mine
end
section
open PySem PyProof.Rows PySem.SeqAt
namespace Mine
set_option tactic.hygienic false
set_option autoImplicit false
section
variable {c : Cx} {A : Around} {bad : Addr → Prop} {fs : List Addr} {s : Shared}
theorem cmpop_ok {op : COp} {x y : AV} {r : Bool} {v u : Value} (a : At c A bad fs s) (e : Ad op x y = some r) (dx : DenR c s.heap bad fs x v) (dy : DenR c s.heap bad fs y u)
    (hn : (op = .isNone ∨ op = .isNotNone) → u = .none) {Q : Value → Shared → Prop} {E : Value → Shared → Prop} (h : Q (.bool r) s) :
    wpAny (model c.prog c.w) A (compareOp (Gf op) v u) Q E s := by
  have other : (∀ q, x = q → q ≠ .none) → (v == Value.none) = false := fun hx => by
    have dx := dx.1
    cases x <;> simp only [DenT] at dx <;> first | (exact absurd rfl (hx _ rfl)) | skip
    · subst dx; rfl
    · obtain ⟨t, rfl⟩ := dx; rfl
    · obtain ⟨_, t, rfl⟩ := dx; rfl
    · obtain ⟨_, _, rfl, _⟩ := dx; rfl
    · obtain ⟨_, _, rfl, _⟩ := dx; rfl
    · obtain ⟨_, _, rfl, _⟩ := dx; rfl
    · obtain ⟨_, _, rfl, _⟩ := dx; rfl
  cases op <;> simp only [Ad] at e
  case eq => exact eqAV_ok a e dx dy h
  case ne =>
    simp only [Option.map_eq_some_iff] at e
    obtain ⟨b, e, rfl⟩ := e
    exact neAV_ok a e dx dy h
  case isIn =>
    cases y <;> first | exact (nS e).elim | skip
    · exact (Jl a (.inr (.inr ⟨_, rfl, rfl⟩)) e dx dy).1 h
    · exact (Jl a (.inr (.inl rfl)) e dx dy).1 h
    · exact (Jl a (.inl rfl) e dx dy).1 h
  case notIn =>
    cases y <;> first | exact (nS e).elim | skip
    all_goals (replace e := mS e; obtain ⟨b, e, rfl⟩ := e)
    · exact (Jl a (.inr (.inr ⟨_, rfl, rfl⟩)) e dx dy).2 h
    · exact (Jl a (.inr (.inl rfl)) e dx dy).2 h
    · exact (Jl a (.inl rfl) e dx dy).2 h
  case isNone =>
    have q := hn (.inl rfl); subst q
    by_cases hx : x = .none
    · subst hx; have dx := dx.1; simp only [DenT] at dx; subst dx; obtain rfl := Option.some.inj e
      exact is_none h
    · have e : false = r := by cases x <;> first | exact absurd rfl hx | exact Option.some.inj e
      subst e
      refine is_none ?_
      rw [other fun q e e' => hx (e.trans e')]; exact h
  case isNotNone =>
    have q := hn (.inr rfl); subst q
    by_cases hx : x = .none
    · subst hx; have dx := dx.1; simp only [DenT] at dx; subst dx; obtain rfl := Option.some.inj e
      exact isNot_none h
    · have e : true = r := by cases x <;> first | exact absurd rfl hx | exact Option.some.inj e
      subst e
      refine isNot_none ?_
      rw [other fun q e e' => hx (e.trans e')]; exact h
  case isNotBool =>
    cases x <;> first | exact (nS e).elim | (cases y <;> first | exact (nS e).elim | skip)
    have dx := dx.1; have dy := dy.1; simp only [DenT] at dx dy; subst dx dy; obtain rfl := Option.some.inj e
    refine wpAny_isNot_plain rfl ?_
    have : ∀ p q : Bool, (!(Value.bool p == Value.bool q)) = (p != q) := by decide
    rw [this]; exact h
  all_goals (cases x <;> first | exact (nS e).elim | (cases y <;> first | exact (nS e).elim | skip))
  all_goals (have dx := dx.1; have dy := dy.1; simp only [DenT] at dx dy)
  · obtain ⟨t, rfl⟩ := dx; obtain ⟨t', rfl⟩ := dy; obtain rfl := Option.some.inj e; exact P.lt_int h
  · obtain ⟨_, t, rfl⟩ := dx; obtain ⟨_, t', rfl⟩ := dy; obtain rfl := Option.some.inj e; rw [It] at h; exact P.lt_str (by simpa using h)
  · obtain ⟨t, rfl⟩ := dx; obtain ⟨t', rfl⟩ := dy; obtain rfl := Option.some.inj e; exact P.le_int h
  · obtain ⟨_, t, rfl⟩ := dx; obtain ⟨_, t', rfl⟩ := dy; obtain rfl := Option.some.inj e; rw [It] at h; exact P.le_str (by simpa using h)
  · obtain ⟨t, rfl⟩ := dx; obtain ⟨t', rfl⟩ := dy; obtain rfl := Option.some.inj e; exact P.gt_int h
  · obtain ⟨_, t, rfl⟩ := dx; obtain ⟨_, t', rfl⟩ := dy; obtain rfl := Option.some.inj e; rw [It] at h; exact P.gt_str (by simpa using h)
  · obtain ⟨t, rfl⟩ := dx; obtain ⟨t', rfl⟩ := dy; obtain rfl := Option.some.inj e; exact P.ge_int h
  · obtain ⟨_, t, rfl⟩ := dx; obtain ⟨_, t', rfl⟩ := dy; obtain rfl := Option.some.inj e; rw [It] at h; exact P.ge_str (by simpa using h)
set_option tactic.hygienic true in
theorem Hx {α : Type} {xs : List α} {i : Int} {x : α} (h : getI xs i = some x) : (0 ≤ i ∧ i < xs.length ∧ xs[i.toNat]? = some x) ∨ (i < 0 ∧ -(xs.length : Int) ≤ i ∧ xs[(i + xs.length).toNat]? = some x) := by
  unfold getI at h
  split at h
  · rename_i h0
    have := (List.getElem?_eq_some_iff.mp h).1
    exact .inl ⟨h0, by lia, h⟩
  · split at h
    · rename_i h0 h1
      rw [Int.add_comm] at h
      exact .inr ⟨by exact Int.lt_of_not_ge ‹_›, h1, h⟩
    · cases h
theorem seqIndex_pos {i : Int} {n : Nat} (h0 : 0 ≤ i) (h1 : i < n) : seqIndex? i n = some i.toNat := by
  have e : (if i < 0 then i + (n : Int) else i) = i := if_neg (by exact Int.not_lt.mpr ‹_›)
  unfold seqIndex?
  simp only [e]
  rw [if_pos (by simp; lia)]
theorem seqIndex_neg {i : Int} {n : Nat} (h0 : i < 0) (h1 : -(n : Int) ≤ i) : seqIndex? i n = some (i + n).toNat := by
  have e : (if i < 0 then i + (n : Int) else i) = i + n := if_pos (by assumption)
  unfold seqIndex?
  simp only [e]
  rw [if_pos (by simp; lia)]
set_option tactic.hygienic true in
theorem getItem_ok {x y z : AV} {v u : Value} (a : At c A bad fs s) (e : Az x y = some z) (dx : DenR c s.heap bad fs x v) (dy : DenR c s.heap bad fs y u) :
    wpAny (model c.prog c.w) A (getItem v u) (PE c fs bad true false s z) (fun _ _ => False) s := by
  replace dx := dx.1
  replace dy := dy.1
  have hl := lim_lt
  cases x <;> first | exact (nS e).elim | (cases y <;> first | exact (nS e).elim | skip)
  · replace e := mS e
    obtain ⟨n, e, rfl⟩ := e
    simp only [DenT] at dx dy
    obtain ⟨hs, t, rfl⟩ := dx; obtain ⟨t', rfl⟩ := dy
    rename_i xs i
    have : LIM = 1048576 := rfl
    refine PyProof.Rows.getItem_str (c := n) ?_ ?_ ?_
    · rcases Hx e with ⟨h0, h1, h2⟩ | ⟨h0, h1, h2⟩ <;> simp <;> lia
    · simp only [Str.length, List.size_toArray]
      rcases Hx e with ⟨h0, h1, h2⟩ | ⟨h0, h1, h2⟩
      · rw [seqIndex_pos h0 h1]; simpa using h2
      · rw [seqIndex_neg h0 h1]; simpa using h2
    · exact .str (x := [n]) (.tok ..) (by simp [LIM])
  · replace e := mS e
    obtain ⟨n, e, rfl⟩ := e
    simp only [DenT] at dx dy
    obtain ⟨p, vs, rfl, hp, hs, hd⟩ := dx; obtain ⟨t, rfl⟩ := dy
    have hlen := hd.length
    rcases Hx e with ⟨h0, h1, h2⟩ | ⟨h0, h1, h2⟩
    · obtain ⟨t', q⟩ := hd.get h2
      exact wpAny_getItem_list hp h0 (by with_reducible exact ZP ‹_› ‹_› ‹_›) (by simpa using q) (.int (.refl ..))
    · obtain ⟨t', q⟩ := hd.get h2
      exact wpAny_getItem_list_neg hp h0 (by simpa [hlen] using h1) (by with_reducible exact ZQ ‹_› ‹_› ‹_›) (by simpa [hlen] using q) (.int (.refl ..))
  · simp only [DenT] at dx dy
    obtain ⟨p, vs, rfl, hp, hs, hd⟩ := dx; obtain ⟨t, rfl⟩ := dy
    have hlen := hd.length
    rcases Hx e with ⟨h0, h1, h2⟩ | ⟨h0, h1, h2⟩
    · obtain ⟨w, q, dw⟩ := hd.get h2
      exact wpAny_getItem_list hp h0 (by with_reducible exact ZP ‹_› ‹_› ‹_›) (by simpa using q) (.there (.refl ..) a.fsb dw)
    · obtain ⟨w, q, dw⟩ := hd.get h2
      exact wpAny_getItem_list_neg hp h0 (by simpa [hlen] using h1) (by with_reducible exact ZQ ‹_› ‹_› ‹_›) (by simpa [hlen] using q) (.there (.refl ..) a.fsb dw)
  · simp only [DenT] at dx dy
    obtain ⟨p, vs, rfl, hp, hs, hd⟩ := dx; obtain ⟨t, rfl⟩ := dy
    have hlen := hd.length
    rcases Hx e with ⟨h0, h1, h2⟩ | ⟨h0, h1, h2⟩
    · obtain ⟨w, q, dw⟩ := hd.get h2
      exact PyProof.Rows.getItem_tuple hp (by exact YA ‹_›) (by with_reducible exact ZP ‹_› ‹_› ‹_›) (seqIndex_pos h0 (by simpa [hlen] using h1)) (by simpa using q) (.there (.refl ..) a.fsb dw)
    · obtain ⟨w, q, dw⟩ := hd.get h2
      exact PyProof.Rows.getItem_tuple hp (by with_reducible exact ZQ ‹_› ‹_› ‹_›) (by exact YB ‹_›) (seqIndex_neg h0 (by simpa [hlen] using h1)) (by simpa [hlen] using q) (.there (.refl ..) a.fsb dw)
end
end Mine
end
section
open PySem PyProof.Rows PySem.SeqAt
namespace Mine
set_option tactic.hygienic false
set_option autoImplicit false
section
variable {c : Cx} {A : Around} {bad : Addr → Prop} {fs : List Addr} {s : Shared}
theorem strIdx_from (n : Nat) (i : Nat) : Builtin.Str.strSliceIndices (some (i : Int)) none 1 n = (List.range (n - min i n)).map (min i n + ·) := by
  rw [← sliceRange_one]
  unfold Builtin.Str.strSliceIndices
  simp only [show (1 : Int) > 0 by decide, if_true, show ¬ ((i : Int) < 0) by exact YH _, if_false]
  congr 1
  lia
theorem strIdx_upto (n : Nat) (i : Nat) : Builtin.Str.strSliceIndices none (some (i : Int)) 1 n = (List.range (min i n - 0)).map (0 + ·) := by
  rw [← sliceRange_one]
  unfold Builtin.Str.strSliceIndices
  simp only [show (1 : Int) > 0 by decide, if_true, show ¬ ((i : Int) < 0) by exact YH _, if_false]
  congr 1
  lia
set_option tactic.hygienic true in
theorem sliceMade_from {x : List Nat} {t : Tok} {i : Nat} {u : Tok} {Q : Value → Shared → Prop} (hx : x.length ≤ LIM) (h : ∀ t' tk, Q (.str ⟨(x.drop i).toArray⟩ t') { s with toks := tk }) :
    (sliceMade ⟨x.toArray⟩ t (some ((i : Int), u)) none none).post Q s := by
  have hl := Ew
  unfold sliceMade slicePicked
  simp only [Option.map_some, Option.map_none, Option.getD_none, Str.length, List.size_toArray]
  rw [strIdx_from]
  split
  · rename_i q
    simp only [beq_self_eq_true, Bool.true_and, List.length_map, List.length_range, beq_iff_eq] at q
    have : x.drop i = x := by
      by_cases hi : i = 0
      · subst hi; rfl
      · have : x.length = 0 := by lia
        have := List.eq_nil_of_length_eq_zero this
        subst this; simp
    have h2 := h t s.toks
    rw [this] at h2
    exact h2
  · refine ⟨?_, ?_⟩
    · rw [pick_run]
      simp only [Str.length, List.size_toArray, List.length_take, List.length_drop]
      lia
    · rw [pick_run]
      have : List.take (x.length - min i x.length) (List.drop (min i x.length) x.toArray.toList) = x.drop i := by
        rw [List.take_of_length_le (by simp)]
        by_cases hi : i ≤ x.length
        · rw [Nat.min_eq_left hi]
        · rw [Nat.min_eq_right (by exact Nat.le_of_not_le ‹_›), List.drop_of_length_le (by simp), List.drop_of_length_le (by exact Nat.le_of_not_le ‹_›)]
      rw [this]; exact h _ _
set_option tactic.hygienic true in
theorem sliceMade_upto {x : List Nat} {t : Tok} {i : Nat} {u : Tok} {Q : Value → Shared → Prop} (hx : x.length ≤ LIM) (h : ∀ t' tk, Q (.str ⟨(x.take i).toArray⟩ t') { s with toks := tk }) :
    (sliceMade ⟨x.toArray⟩ t none (some ((i : Int), u)) none).post Q s := by
  have hl := Ew
  unfold sliceMade slicePicked
  simp only [Option.map_some, Option.map_none, Option.getD_none, Str.length, List.size_toArray]
  rw [strIdx_upto]
  split
  · rename_i q
    simp only [beq_self_eq_true, Bool.true_and, List.length_map, List.length_range, beq_iff_eq] at q
    have : x.take i = x := List.take_of_length_le (by lia)
    have h2 := h t s.toks
    rw [this] at h2
    exact h2
  · refine ⟨?_, ?_⟩
    · rw [pick_run]
      simp only [Str.length, List.size_toArray, List.length_take, List.length_drop]
      lia
    · rw [pick_run]
      have : List.take (min i x.length - 0) (List.drop 0 x.toArray.toList) = x.take i := by
        simp only [Nat.sub_zero, List.drop_zero]
        by_cases hi : i ≤ x.length
        · rw [Nat.min_eq_left hi]
        · rw [Nat.min_eq_right (by exact Nat.le_of_not_le ‹_›)]; simp; rw [List.take_of_length_le (by exact Nat.le_of_not_le ‹_›)]
      rw [this]; exact h _ _
theorem sliceTo_ok {x y z : AV} {v u : Value} {sl : Addr} {cap fr : Bool} (a : At c A bad fs s) (e : takeop x y = some z) (dx : DenR c s.heap bad fs x v) (dy : DenR c s.heap bad fs y u) (hs : s.heap.IsSliceOf sl .none u .none) :
    wpAny (model c.prog c.w) A (getItem v (.ref sl)) (PE c fs bad cap fr s z) (fun _ _ => False) s := by
  replace dx := dx.1
  replace dy := dy.1
  have hll := Ew
  cases x <;> first | exact (nS e).elim | (cases y <;> first | exact (nS e).elim | skip)
  · obtain ⟨h0, rfl⟩ := iS e
    simp only [DenT] at dx dy
    obtain ⟨hz, t, rfl⟩ := dx; obtain ⟨t', rfl⟩ := dy
    obtain ⟨n, rfl⟩ := Int.eq_ofNat_of_zero_le h0
    refine wpAny_getItem_str_slice (l := none) (u := some (_, t')) (st := none) hs rfl ?_
    exact sliceMade_upto hz fun t' tk => .str (.tok ..) (by simp; exact Nat.le_trans (Nat.min_le_right _ _) ‹_›)
  · obtain ⟨h0, rfl⟩ := iS e
    simp only [DenT] at dx dy
    obtain ⟨p, vs, rfl, hp, hz, hd⟩ := dx; obtain ⟨t, rfl⟩ := dy
    obtain ⟨n, rfl⟩ := Int.eq_ofNat_of_zero_le h0
    refine wpAny_getItem_list_slice hp hs .none (.int _ t) .none (by simp) ?_ (by have := hd.length; simp; with_reducible exact (ZA ‹_› ‹_› ‹_›))
    rw [slicePick_upto']
    refine PE.newL a ?_
    simp only [DenT]
    refine ⟨_, _, rfl, Bi .., by simp; exact Nat.le_trans (Nat.min_le_right _ _) ‹_›, by simpa using hd.take n⟩
  · obtain ⟨h0, rfl⟩ := iS e
    simp only [DenT] at dx dy
    obtain ⟨p, vs, rfl, hp, hz, hd⟩ := dx; obtain ⟨t, rfl⟩ := dy
    obtain ⟨n, rfl⟩ := Int.eq_ofNat_of_zero_le h0
    refine wpAny_getItem_list_slice hp hs .none (.int _ t) .none (by simp) ?_ (by have := hd.length; simp; with_reducible exact (ZA ‹_› ‹_› ‹_›))
    rw [slicePick_upto']
    refine PE.newL a ?_
    simp only [DenT]
    refine ⟨_, _, rfl, Bi .., by simp; exact Nat.le_trans (Nat.min_le_right _ _) ‹_›, by simpa using (hd.take n).push _⟩
theorem sliceFrom_ok {x y z : AV} {v u : Value} {sl : Addr} {cap fr : Bool} (a : At c A bad fs s) (e : dropop x y = some z) (dx : DenR c s.heap bad fs x v) (dy : DenR c s.heap bad fs y u) (hs : s.heap.IsSliceOf sl u .none .none) :
    wpAny (model c.prog c.w) A (getItem v (.ref sl)) (PE c fs bad cap fr s z) (fun _ _ => False) s := by
  replace dx := dx.1
  replace dy := dy.1
  have hll := Ew
  cases x <;> first | exact (nS e).elim | (cases y <;> first | exact (nS e).elim | skip)
  · obtain ⟨h0, rfl⟩ := iS e
    simp only [DenT] at dx dy
    obtain ⟨hz, t, rfl⟩ := dx; obtain ⟨t', rfl⟩ := dy
    obtain ⟨n, rfl⟩ := Int.eq_ofNat_of_zero_le h0
    refine wpAny_getItem_str_slice (l := some (_, t')) (u := none) (st := none) hs rfl ?_
    exact sliceMade_from hz fun t' tk => .str (.tok ..) (by simp; exact Nat.le_trans ‹_› (Nat.le_add_right _ _))
  · obtain ⟨h0, rfl⟩ := iS e
    simp only [DenT] at dx dy
    obtain ⟨p, vs, rfl, hp, hz, hd⟩ := dx; obtain ⟨t, rfl⟩ := dy
    obtain ⟨n, rfl⟩ := Int.eq_ofNat_of_zero_le h0
    refine wpAny_getItem_list_slice hp hs (.int _ t) .none .none (by simp) ?_ (by have := hd.length; simp; with_reducible exact (ZA ‹_› ‹_› ‹_›))
    rw [slicePick_from']
    refine PE.newL a ?_
    simp only [DenT]
    refine ⟨_, _, rfl, Bi .., by simp; exact Nat.le_trans ‹_› (Nat.le_add_right _ _), by simpa using hd.drop n⟩
  · obtain ⟨h0, rfl⟩ := iS e
    simp only [DenT] at dx dy
    obtain ⟨p, vs, rfl, hp, hz, hd⟩ := dx; obtain ⟨t, rfl⟩ := dy
    obtain ⟨n, rfl⟩ := Int.eq_ofNat_of_zero_le h0
    refine wpAny_getItem_list_slice hp hs (.int _ t) .none .none (by simp) ?_ (by have := hd.length; simp; with_reducible exact (ZA ‹_› ‹_› ‹_›))
    rw [slicePick_from']
    refine PE.newL a ?_
    simp only [DenT]
    refine ⟨_, _, rfl, Bi .., by simp; exact Nat.le_trans ‹_› (Nat.le_add_right _ _), by simpa using (hd.drop n).push _⟩
noncomputable def tyOf : AV → Option String
  | .str _ => some "str"
  | .ilist _ => some "list"
  | .list _ => some "list"
  | .tup _ => some "tuple"
  | _ => none
theorem den_type {x : AV} {v : Value} {T : String} (d : DenT c s.heap bad x v) (h : tyOf x = some T) : s.TypeIs v T := by
  cases x <;> simp only [tyOf] at h <;> cases h <;> simp only [DenT] at d
  · obtain ⟨_, t, rfl⟩ := d; exact typeIs_str _ _ _
  · obtain ⟨a, vs, rfl, hl, _⟩ := d; exact hl.typeIs
  · obtain ⟨a, vs, rfl, hl, _⟩ := d; exact hl.typeIs
  · obtain ⟨a, vs, rfl, hl, _⟩ := d; exact hl.typeIs
theorem getitem_of {x : AV} {T : String} (h : tyOf x = some T) : ∃ id, typeLookup (.type T) "__getitem__" = pure (some (.builtin id)) := by
  cases x <;> simp only [tyOf] at h <;> cases h
  · exact ⟨_, F.slot_str_getitem.lookup⟩
  · exact ⟨_, slot_list_getitem.lookup⟩
  · exact ⟨_, slot_list_getitem.lookup⟩
  · exact ⟨_, PyProof.Rows.slot_tuple_getitem.lookup⟩
theorem idx_ty {x y z : AV} (e : Az x y = some z) : ∃ T, tyOf x = some T := by cases x <;> first | exact (nS e).elim | exact ⟨_, rfl⟩ | (cases y <;> exact (nS e).elim)
theorem take_ty {x y z : AV} (e : takeop x y = some z) : ∃ T, tyOf x = some T := by cases x <;> first | exact (nS e).elim | exact ⟨_, rfl⟩ | (cases y <;> exact (nS e).elim)
theorem drop_ty {x y z : AV} (e : dropop x y = some z) : ∃ T, tyOf x = some T := by cases x <;> first | exact (nS e).elim | exact ⟨_, rfl⟩ | (cases y <;> exact (nS e).elim)
set_option tactic.hygienic true in
theorem subTail {value slice : Expr} {v u : Value} {x : AV} {T : String} {Q : Value → Shared → Prop} {E : Value → Shared → Prop} (d : DenT c s.heap bad x v) (h : tyOf x = some T) (hg : wpAny (model c.prog c.w) A (getItem v u) Q E s) :
    wpAny (model c.prog c.w) A (subscriptTail value slice v u) Q E s := by
  obtain ⟨id, hl⟩ := getitem_of h
  by_cases q : ∃ p q r, slice = .Slice p q none r
  · obtain ⟨p, q, r, rfl⟩ := q
    exact tail_any (ops := [u, v]) (den_type d h) hl hg rfl
  · refine tail_any (ops := [v, u]) (den_type d h) hl hg ?_
    cases slice <;> first | rfl | skip
    rename_i st _
    cases st with
    | none => exact absurd ⟨_, _, _, rfl⟩ q
    | some _ => rfl
end
end Mine
end
section
open PySem PyProof.Rows PySem.SeqAt
namespace Mine
set_option tactic.hygienic false
set_option autoImplicit false
section
variable {c : Cx} {A : Around} {bad : Addr → Prop} {fs : List Addr} {s : Shared}
noncomputable def fval : F1 → Value
  | .len => .builtin "len" | .abs => .builtin "abs" | .list => .type "list" | .sum => .builtin "sum" | .str => .type "str" | .ord => .builtin "ord" | .maxL => .builtin "max"
theorem DenI.pairs : ∀ {xs : List Int} {vs : List Value}, DenI xs vs → ∃ ps : List (Int × Tok), vs = ps.map (fun p => Value.int p.1 p.2) ∧ ps.map (·.1) = xs
  | [], vs, e => by simp only [DenI] at e; subst e; exact ⟨[], rfl, rfl⟩
  | x :: r, vs, e => by
    simp only [DenI] at e
    obtain ⟨t, w, rfl, hr⟩ := e
    obtain ⟨ps, rfl, h2⟩ := hr.pairs
    exact ⟨(x, t) :: ps, rfl, by simp [h2]⟩
theorem sumI_eq (xs : List Int) : sumI xs = xs.sum := by
  have : ∀ (xs : List Int) (a : Int), xs.foldl (· + ·) a = a + xs.sum := by
    intro xs
    induction xs with
    | nil => intro a; simp
    | cons x r ih => intro a; rw [List.foldl_cons, ih, List.sum_cons]; lia
  unfold sumI; rw [this]; simp
theorem foldl_max : ∀ (r : List Int) (x : Int), (x ≤ r.foldl max x ∧ ∀ y ∈ r, y ≤ r.foldl max x) ∧ (r.foldl max x = x ∨ r.foldl max x ∈ r)
  | [], x => ⟨⟨Int.le_refl _, fun _ h => by cases h⟩, .inl rfl⟩
  | y :: r, x => by
    obtain ⟨⟨h1, h2⟩, h3⟩ := foldl_max r (max x y)
    rw [List.foldl_cons]
    refine ⟨⟨Int.le_trans (Int.le_max_left x y) h1, fun z hz => ?_⟩, ?_⟩
    · rcases List.mem_cons.mp hz with rfl | hz
      · exact Int.le_trans (Int.le_max_right x z) h1
      · exact h2 z hz
    · rcases h3 with h3 | h3
      · rw [h3]
        by_cases q : x ≤ y
        · exact .inr (by rw [Int.max_eq_right q]; exact List.mem_cons_self)
        · exact .inl (Int.max_eq_left (Int.le_of_lt (Int.not_le.mp q)))
      · exact .inr (List.mem_cons_of_mem _ h3)
theorem best_max (q : Int × Tok) (r : List (Int × Tok)) : numAt (q :: r).toArray (argBest (fun i j => decide (numAt (q :: r).toArray i > numAt (q :: r).toArray j)) ((q :: r).toArray.size - 1)) = (r.map (·.1)).foldl max q.1 := by
  obtain ⟨hb, hall⟩ := argBest_gt (numAt (q :: r).toArray) ((q :: r).toArray.size - 1)
  obtain ⟨⟨m1, m2⟩, m3⟩ := foldl_max (r.map (·.1)) q.1
  have hsz : (q :: r).toArray.size - 1 = r.length := by simp
  rw [hsz] at hb hall ⊢
  have at0 : ∀ j, j ≤ r.length → numAt (q :: r).toArray j ∈ (q :: r).map (·.1) := fun j hj => by
    unfold numAt
    have hj' : j < (q :: r).length := Nat.lt_succ_of_le hj
    have : (q :: r).toArray[j]? = some (q :: r)[j] := by rw [List.getElem?_toArray, List.getElem?_eq_getElem hj']
    rw [this]
    exact List.mem_map.mpr ⟨_, List.getElem_mem _, rfl⟩
  refine Int.le_antisymm ?_ ?_
  · have := at0 _ hb
    rw [List.map_cons] at this
    rcases List.mem_cons.mp this with e | e
    · rw [e]; exact m1
    · exact m2 _ e
  · have key : ∀ x ∈ (q :: r).map (·.1), ∃ j, j ≤ r.length ∧ numAt (q :: r).toArray j = x := fun x hx => by
      obtain ⟨p, hp, rfl⟩ := List.mem_map.mp hx
      obtain ⟨j, hj, e⟩ := List.getElem_of_mem hp
      refine ⟨j, Nat.le_of_lt_succ hj, ?_⟩
      unfold numAt
      have : (q :: r).toArray[j]? = some (q :: r)[j] := by rw [List.getElem?_toArray, List.getElem?_eq_getElem hj]
      rw [this, e]; rfl
    have hm : (r.map (·.1)).foldl max q.1 ∈ (q :: r).map (·.1) := by
      rw [List.map_cons]
      rcases m3 with e | e
      · rw [e]; exact List.mem_cons_self
      · exact List.mem_cons_of_mem _ e
    obtain ⟨j, hj, e⟩ := key _ hm
    rw [← e]; exact hall j hj
set_option tactic.hygienic true in
theorem f1_ok {f : F1} {x z : AV} {v : Value} {cap fr : Bool} (a : At c A bad fs s) (e : Af f x = some z) (dx : DenR c s.heap bad fs x v) :
    wpAny (model c.prog c.w) A (call (fval f) [v]) (PE c fs bad cap fr s z) (fun _ _ => False) s := by
  have dx := dx.1
  have hl := lim_lt
  have hll := Ew
  cases f <;> cases x <;> first | exact (nS e).elim | skip
  · cases e
    simp only [DenT] at dx
    obtain ⟨h1, t, rfl⟩ := dx
    refine PyProof.Rows.len_str (by simp only [Str.length, List.size_toArray]; with_reducible exact ZO ‹_› ‹_›) ?_
    simp only [Str.length, List.size_toArray]
    exact .int (.tok ..)
  · cases e
    simp only [DenT] at dx
    obtain ⟨p, vs, rfl, hp, h1, hd⟩ := dx
    have h2 := hd.length
    refine PyProof.Rows.len_list hp (by simp only [List.size_toArray]; with_reducible exact ZN ‹_› ‹_› ‹_›) ?_
    simp only [List.size_toArray, h2]
    exact .int (.tok ..)
  · cases e
    simp only [DenT] at dx
    obtain ⟨p, vs, rfl, hp, h1, hd⟩ := dx
    have h2 := hd.length
    refine PyProof.Rows.len_list hp (by simp only [List.size_toArray]; with_reducible exact ZN ‹_› ‹_› ‹_›) ?_
    simp only [List.size_toArray, h2]
    exact .int (.tok ..)
  · cases e
    simp only [DenT] at dx
    obtain ⟨p, vs, rfl, hp, h1, hd⟩ := dx
    have h2 := hd.length
    refine PyProof.Rows.len_tuple hp (by simp only [List.size_toArray]; with_reducible exact ZN ‹_› ‹_› ‹_›) ?_
    simp only [List.size_toArray, h2]
    exact .int (.tok ..)
  · cases e
    simp only [DenT] at dx
    obtain ⟨t, rfl⟩ := dx
    rename_i i
    refine PyProof.Rows.call_abs_int fun u tk => ?_
    have : (if i < 0 then -i else i) = (i.natAbs : Int) := by split <;> lia
    rw [this]; exact .int (.tok ..)
  · cases e
    simp only [DenT] at dx
    obtain ⟨p, vs, rfl, ⟨o, ho, hc, n, hd'⟩, h1, hd⟩ := dx
    have h2 := hd.length
    refine call_list_seq p (.inl rfl) ho hc hd' (fun h' c' hk hD => ?_) (by simp only [List.size_toArray]; with_reducible exact (ZA ‹_› ‹_› ‹_›))
    refine .new (.mk' _ _ (.of hk)) a.fsb a.badD (Ba _) ?_
    simp only [DenT]
    exact ⟨_, vs, rfl, ⟨_, hD, rfl, _, rfl⟩, h1, hd⟩
  · cases e
    simp only [DenT] at dx
    obtain ⟨p, vs, rfl, ⟨o, ho, hc, n, hd'⟩, h1, hd⟩ := dx
    have h2 := hd.length
    refine call_list_seq p (.inl rfl) ho hc hd' (fun h' c' hk hD => ?_) (by simp only [List.size_toArray]; with_reducible exact (ZA ‹_› ‹_› ‹_›))
    refine .new (.mk' _ _ (.of hk)) a.fsb a.badD (Ba _) ?_
    simp only [DenT]
    exact ⟨_, vs, rfl, ⟨_, hD, rfl, _, rfl⟩, h1, hd.kp (fs := fs) (.of hk) a.fsb⟩
  · cases e
    simp only [DenT] at dx
    obtain ⟨p, vs, rfl, ⟨o, ho, hc, n, hd'⟩, h1, hd⟩ := dx
    have h2 := hd.length
    refine call_list_seq p (.inr rfl) ho hc hd' (fun h' c' hk hD => ?_) (by simp only [List.size_toArray]; with_reducible exact (ZA ‹_› ‹_› ‹_›))
    refine .new (.mk' _ _ (.of hk)) a.fsb a.badD (Ba _) ?_
    exact den_mkL ⟨_, hD, rfl, _, rfl⟩ (hd.kp (fs := fs) (.of hk) a.fsb) h1
  · cases e
    simp only [DenT] at dx
    obtain ⟨p, vs, rfl, hp, h1, hd⟩ := dx
    obtain ⟨ps, rfl, rfl⟩ := hd.pairs
    refine sum_intListG (xs := ps.toArray) a.room.handled (by simpa [intItems] using hp) fun h' tk t' hk => ?_
    have : preSum (numAt ps.toArray) ps.toArray.size = sumI (ps.map (·.1)) := by
      rw [preSum_eq, sumI_eq, List.take_of_length_le (by simp)]
    rw [this]
    exact .int (.mk _ _ _ (.of hk))
  · obtain ⟨hi, rfl⟩ := iS e
    simp only [DenT] at dx
    obtain ⟨t, rfl⟩ := dx
    refine P.str_of_int (by with_reducible exact Nat.lt_of_lt_of_le ‹_› (by decide)) ?_
    refine PE.plain (.tok ..) ?_ (by intro a e; cases e)
    simp only [DenT, An]
    refine ⟨?_, _, rfl⟩
    have e := int_text_length_le (k := 1000) (by decide) hi
    rw [← PySem.ofString_length] at e
    unfold Str.length at e
    rw [Array.length_toList]
    unfold LIM; with_reducible exact Nat.le_trans ‹_› (by decide)
  · rename_i q _
    rcases q with _ | ⟨_, _ | _⟩ <;> first | exact (nS e).elim | skip
    cases e
    simp only [DenT] at dx
    obtain ⟨h1, t, rfl⟩ := dx
    exact P.ord_of_char (.int (.tok ..))
  · simp only [DenT] at dx
    obtain ⟨p, vs, rfl, hp, h1, hd⟩ := dx
    obtain ⟨ps, rfl, rfl⟩ := hd.pairs
    cases ps with
    | nil => exact (nS e).elim
    | cons q r =>
      obtain rfl := Option.some.inj e
      refine max_intList (xs := (q :: r).toArray) a.room.handled (by simpa [intItems] using hp) (by simp) fun v h' tk hv hk => ?_
      obtain ⟨t, rfl⟩ := intItems_at hv
      rw [best_max]
      exact .int (.mk _ _ _ (.of hk))
theorem strsOf_den {h : Heap} : ∀ {ys : List AV} {ss : List (List Nat)} {vs : List Value}, strsOf ys = some ss → DenL c h bad ys vs → ∃ l : List (Str × Tok), vs = strValues l ∧ l.map (·.1) = ss.map fun x => (⟨x.toArray⟩ : Str)
  | [], ss, vs, e, d => by obtain rfl := Option.some.inj e; simp only [DenL] at d; subst d; exact ⟨[], rfl, rfl⟩
  | y :: r, ss, vs, e, d => by
    cases y <;> first | exact (nS e).elim | skip
    rw [so_c] at e
    cases q : strsOf r with
    | none => rw [q] at e; cases e
    | some is =>
      rw [q] at e
      simp at e; subst e
      simp only [DenL, DenT] at d
      obtain ⟨v, t, rfl, ⟨⟨_, tk, rfl⟩, _⟩, hr⟩ := d
      obtain ⟨l, rfl, h2⟩ := strsOf_den q hr
      exact ⟨(_, tk) :: l, rfl, by simp [h2]⟩
theorem join_eq (sep : List Nat) : ∀ ss : List (List Nat), Str.join ⟨sep.toArray⟩ (ss.map fun x => (⟨x.toArray⟩ : Str)) = ⟨(Av sep ss).toArray⟩
  | [] => rfl
  | [x] => rfl
  | x :: y :: r => by
    have := join_eq sep (y :: r)
    simp only [List.map_cons] at this ⊢
    simp only [Str.join, Av, this, str_append]
theorem joinL_len (sep : List Nat) : ∀ ss : List (List Nat), (Av sep ss).length ≤ (ss.map List.length).sum + ss.length * sep.length
  | [] => by simp [Av]
  | [x] => by simp [Av]
  | x :: y :: r => by
    have := joinL_len sep (y :: r)
    simp only [Av, List.length_append, List.map_cons, List.sum_cons, List.length_cons] at this ⊢
    have e : (r.length + 1 + 1) * sep.length = (r.length + 1) * sep.length + sep.length := by rw [Nat.add_mul, Nat.one_mul]
    lia
set_option tactic.hygienic true in
theorem join_ok {x y z : AV} {v u : Value} {cap fr : Bool} (a : At c A bad fs s) (e : joinop x y = some z) (dx : DenR c s.heap bad fs x v) (dy : DenR c s.heap bad fs y u) :
    wpAny (model c.prog c.w) A (call (.builtin "str.join") [v, u]) (PE c fs bad cap fr s z) (fun _ _ => False) s := by
  have dx := dx.1
  have dy := dy.1
  have hll := Ew
  unfold joinop at e
  split at e
  · rename_i sep b
    simp only [DenT] at dx
    obtain ⟨hs, t, rfl⟩ := dx
    split at e
    · rename_i ss hss
      split at e <;> cases e
      rename_i hlen
      have key : ∃ D l, u = .ref D ∧ s.heap.IsList D (strValues l).toArray ∧ l.map (·.1) = ss.map fun x => (⟨x.toArray⟩ : Str) := by
        split at hss
        · simp only [DenT] at dy
          obtain ⟨p, vs, rfl, hp, h1, hd⟩ := dy
          obtain ⟨l, rfl, h2⟩ := strsOf_den hss hd
          exact ⟨p, l, rfl, hp, h2⟩
        · cases hss
          simp only [DenT] at dy
          obtain ⟨p, vs, rfl, hp, h1, hd⟩ := dy
          simp only [DenI] at hd; subst hd
          exact ⟨p, [], rfl, hp, rfl⟩
        · cases hss
      obtain ⟨D, l, rfl, hp, h2⟩ := key
      refine SC.join hp h2 ?_ fun t' k => ?_
      · unfold JoinOk
        rw [StrLaws.joinTotal]
        simp only [Builtin.Str.tooLong, Bool.not_eq_true', decide_eq_false_iff_not, Nat.not_lt, List.map_map, List.length_map, Str.length, List.size_toArray]
        have : (List.map (fun x : List Nat => x.length) ss) = ss.map List.length := rfl
        have e2 : ((fun x : Str => x.cps.size) ∘ fun x : List Nat => (⟨x.toArray⟩ : Str)) = List.length := by funext x; simp
        rw [e2]; with_reducible exact Nat.le_trans ‹_› ‹_›
      · unfold Txt.join
        rw [StrLaws.glued_eq_join, join_eq]
        exact .str (.tok ..) (Nat.le_trans (joinL_len sep ss) hlen)
    · cases e
  · cases e
end
end Mine
end
section
open PySem PyProof.Rows PySem.SeqAt
namespace Mine
set_option backward.match.sparseCases true
set_option tactic.hygienic false
set_option autoImplicit false
theorem Ex.trans {h₁ h₂ h₃ : Heap} {b₁ b₂ b₃ : Addr → Prop} (x : Ex h₁ h₂ b₁ b₂) (y : Ex h₂ h₃ b₂ b₃) : Ex h₁ h₃ b₁ b₃ where
  keep := fun b o hb e => y.keep b o (x.nb b hb (by first | exact nn (e) | (rw [e]; simp))) (x.keep b o hb e)
  nb := fun b hb e => by
    cases q : h₁.get? b with
    | none => exact absurd q e
    | some o => exact y.nb b (x.nb b hb e) (by first | exact nn (x.keep b o hb q) | (rw [x.keep b o hb q]; simp))
theorem Ex.refl (h : Heap) (b : Addr → Prop) : Ex h h b b := ⟨fun _ _ _ e => e, fun _ hb _ => hb⟩
noncomputable def isName : Expr → Bool
  | .Name .. => true
  | _ => false
structure Je (c : Cx) (A : Around) (target : Expr) (I : Addr) (fp wr : List Addr) (n : Nat) (D : Nat → Value → Heap → Prop) (St : Nat → Heap → Prop) : Prop where
  sub : ∀ b ∈ wr, b ∈ fp
  frame : ∀ i h h', St i h → (∀ b ∈ fp, ∀ o, h.get? b = some o → h'.get? b = some o) → St i h'
  turn : ∀ i (s : Shared) (Q : Value → Shared → Prop) (E : Value → Shared → Prop), i < n → St i s.heap →
    (∀ v h' tk, D i v h' → St (i + 1) h' → (∀ b o, b ∉ wr → s.heap.get? b = some o → h'.get? b = some o) → Q v { s with heap := h', toks := tk }) →
    wpAny (model c.prog c.w) A (pyNext (.ref I)) (fun r s₁ => ∃ v, r = some v ∧ wpAny (model c.prog c.w) A (letOwnedTupleGo target (.ref I) v) (fun _ s₂ => Q v s₂) E s₁) E s
  done : ∀ (s : Shared) (Q : Option Value → Shared → Prop) (E : Value → Shared → Prop), St n s.heap →
    (∀ h' tk, (∀ b o, b ∉ wr → s.heap.get? b = some o → h'.get? b = some o) → Q none { s with heap := h', toks := tk }) → wpAny (model c.prog c.w) A (pyNext (.ref I)) Q E s
  there : ∀ i h, St i h → ∀ b ∈ fp, h.get? b ≠ none
  self : ∀ i (s : Shared) (Q : Value → Shared → Prop) (E : Value → Shared → Prop), St i s.heap → Q (.ref I) s → wpAny (model c.prog c.w) A (pyIter (.ref I)) Q E s
noncomputable def He (T : String) : Prop := (["enumerate", "zip", "dict_itemiterator", "dict_reverseitemiterator", "odict_iterator", "itertools.zip_longest", "itertools.pairwise"] : List String).contains T = false
set_option tactic.hygienic true in
theorem letGo_plain {M : Model} {A : Around} {E : Value → Shared → Prop} {s : Shared} {target : Expr} {I : Addr} {v : Value} {o : Obj} {T : String} {Q : Unit → Shared → Prop} (ho : s.heap.get? I = some o) (hc : o.cls = .type T) (hT : He T) (h : Q () s) :
    wpAny M A (letOwnedTupleGo target (.ref I) v) Q E s := by
  have key : ∀ a : Addr, wpAny M A (do
      let o ← load I
      match o.cls, o.data with
      | .type n, .fields vs =>
        if ["enumerate", "zip", "dict_itemiterator", "dict_reverseitemiterator", "odict_iterator", "itertools.zip_longest", "itertools.pairwise"].contains n && vs[0]? == some (rawInt a) then
          rule "for.unpacks-the-owned-tuple"
          updateField I 0 .none
      | _, _ => pure ()) Q E s := by
    intro a
    refine wpAny_bind (wpAny_load ho ?_)
    rw [hc]
    cases hd : o.data <;> first | exact wpAny_pure h | skip
    rename_i vs
    have hT' := hT
    unfold He at hT'
    simp only [hT', Bool.false_and]
    exact wpAny_pure h
  cases target <;> first | exact wpAny_pure h | (cases v <;> first | exact wpAny_pure h | exact key _)
theorem Je.ofWalks {c : Cx} {A : Around} {target : Expr} {I : Addr} {fp wr : List Addr} {n : Nat} {P : Nat → Value → Prop} {St : Nat → Heap → Prop} {T : String} (W : Walks c.prog c.w A I fp wr n P St) (hT : He T)
    (hI : ∀ i h, St i h → ∃ o, h.get? I = some o ∧ o.cls = .type T) (hfp : ∀ i h, St i h → ∀ b ∈ fp, h.get? b ≠ none) : Je c A target I fp wr n (fun i v _ => P i v) St where
  sub := W.sub
  frame := W.frame
  turn := fun i s Q E hi st hQ => W.item i s _ E hi st fun v h' tk hP st' hk => ⟨v, rfl, by
    obtain ⟨o, ho, hc⟩ := hI _ _ st'
    exact letGo_plain ho hc hT (hQ v h' tk hP st' hk)⟩
  done := W.done
  there := hfp
  self := W.self
inductive Src (c : Cx) (A : Around) (target : Expr) (bad : Addr → Prop) (fs : List Addr) (cap : Bool) (s : Shared) (ys : List AV) (it : Value) (s₂ : Shared) : Prop where
  | mk (I : Addr) (fp wr : List Addr) (D : Nat → Value → Heap → Prop) (St : Nat → Heap → Prop) (e : it = .ref I) (T : Je c A target I fp wr ys.length D St) (st : St 0 s₂.heap) (k : KpS fs s s₂) (hw : ∀ b ∈ wr, s.heap.get? b = none) (hf : ∀ b ∈ fp, b ∉ fs) (hc : cap = true → ∀ b ∈ fp, ¬ bad b) (hd : ∀ b ∈ fp, s₂.heap.get? b ≠ none)
    (hD : ∀ i v h' bad', Ex s.heap h' bad bad' → D i v h' → ∃ y, ys[i]? = some y ∧ DenT c h' bad' y v ∧ (isName target = true → ∀ a, v = .ref a → ¬ bad' a))
section
variable {c : Cx} {A : Around} {bad : Addr → Prop} {fs : List Addr} {s : Shared} {target : Expr}
theorem src_list {x : Addr} {vs : List Value} {ys : List AV} {cap : Bool} (a : At c A bad fs s) (hl : s.heap.IsList x vs.toArray) (hd : DenL c s.heap bad ys vs) (hf : x ∉ fs) (hb : cap = true → ¬ bad x) :
    wpAny (model c.prog c.w) A (pyIter (.ref x)) (Src c A target bad fs cap s ys) (fun _ _ => False) s := by
  refine wpAny_pyIter_list hl ?_
  have hlen := hd.length
  have hx : s.heap.get? x ≠ none := by obtain ⟨o, ho, _⟩ := hl; rw [ho]; simp
  have hlt : x < s.heap.objs.size := by obtain ⟨o, ho, _⟩ := hl; exact Heap.lt_size ho
  have hne : x ≠ s.heap.objs.size := Nat.ne_of_lt hlt
  have W := Walks.list (prog := c.prog) (w := c.w) a.room.handled s.heap.objs.size x hne vs.toArray
  have nb : ¬ bad s.heap.objs.size := fun q => a.badD _ q (Ba _)
  refine ⟨s.heap.objs.size, [s.heap.objs.size, x], [s.heap.objs.size], fun i v _ => vs.toArray[i]? = some v, fun i h => h.IsListIter s.heap.objs.size x i ∧ h.IsList x vs.toArray, rfl, ?_, ?_, kpush, ?_, ?_, ?_, ?_, ?_⟩
  · have W' := Je.ofWalks (target := target) (T := "list_iterator") W (by unfold He; decide) (fun i h st => by obtain ⟨⟨o, ho, hc, _⟩, _⟩ := st; exact ⟨o, ho, hc⟩) (fun i h st b hb' => by
      obtain ⟨⟨o, ho, _⟩, ⟨o', ho', _⟩⟩ := st; simp at hb'; rcases hb' with rfl | rfl
      · rw [ho]; simp
      · rw [ho']; simp)
    have e0 : vs.toArray.size = ys.length := by simp [hlen]
    rw [e0] at W'
    exact W'
  · exact ⟨⟨_, Heap.get?_push_size _ rfl, rfl, rfl⟩, hl.push _⟩
  · intro b hb; simp at hb; subst hb; exact Ba _
  · intro b hb; simp at hb
    rcases hb with rfl | rfl
    · exact fun q => nb (a.fsb _ q)
    · exact hf
  · intro hc b hb'; simp at hb'
    rcases hb' with rfl | rfl
    · exact nb
    · exact hb hc
  · intro b hb'; simp at hb'
    rcases hb' with rfl | rfl
    · rw [Heap.get?_push_size _ rfl]; simp
    · exact Fx hx fun o q => ⟨_, Heap.get?_push_of_some _ q⟩
  · intro i v h' bad' k hP
    have hd' : DenL c h' bad' ys vs := DenL.carry k _ _ hd
    have hi : i < vs.length := by
      have := (List.getElem?_eq_some_iff.mp (show vs[i]? = some v by simpa using hP)).1; exact this
    obtain ⟨y, hy⟩ : ∃ y, ys[i]? = some y := ⟨_, List.getElem?_eq_getElem (by lia)⟩
    obtain ⟨u, hu, du⟩ := hd'.get hy
    have : u = v := by
      have h1 : vs[i]? = some v := by simpa using hP
      rw [hu] at h1; exact Option.some.inj h1
    subst this
    exact ⟨y, hy, du.1, fun _ => du.2⟩
theorem src_tuple {x : Addr} {vs : List Value} {ys : List AV} {cap : Bool} (a : At c A bad fs s) (hl : s.heap.IsTuple x vs.toArray) (hd : DenL c s.heap bad ys vs) (hf : x ∉ fs) (hb : cap = true → ¬ bad x) :
    wpAny (model c.prog c.w) A (pyIter (.ref x)) (Src c A target bad fs cap s ys) (fun _ _ => False) s := by
  refine wpAny_pyIter_tuple hl ?_
  have hlen := hd.length
  have hx : s.heap.get? x ≠ none := by obtain ⟨o, ho, _⟩ := hl; rw [ho]; simp
  have hlt : x < s.heap.objs.size := by obtain ⟨o, ho, _⟩ := hl; exact Heap.lt_size ho
  have hne : x ≠ s.heap.objs.size := Nat.ne_of_lt hlt
  have W := Walks.tuple (prog := c.prog) (w := c.w) a.room.handled s.heap.objs.size x hne vs.toArray
  have nb : ¬ bad s.heap.objs.size := fun q => a.badD _ q (Ba _)
  refine ⟨s.heap.objs.size, [s.heap.objs.size, x], [s.heap.objs.size], fun i v _ => vs.toArray[i]? = some v, fun i h => h.IsTupleIter s.heap.objs.size x i ∧ h.IsTuple x vs.toArray, rfl, ?_, ?_, kpush, ?_, ?_, ?_, ?_, ?_⟩
  · have W' := Je.ofWalks (target := target) (T := "tuple_iterator") W (by unfold He; decide) (fun i h st => by obtain ⟨⟨o, ho, hc, _⟩, _⟩ := st; exact ⟨o, ho, hc⟩) (fun i h st b hb' => by
      obtain ⟨⟨o, ho, _⟩, ⟨o', ho', _⟩⟩ := st; simp at hb'; rcases hb' with rfl | rfl
      · rw [ho]; simp
      · rw [ho']; simp)
    have e0 : vs.toArray.size = ys.length := by simp [hlen]
    rw [e0] at W'
    exact W'
  · exact ⟨⟨_, Heap.get?_push_size _ rfl, rfl, rfl⟩, hl.push _⟩
  · intro b hb; simp at hb; subst hb; exact Ba _
  · intro b hb; simp at hb
    rcases hb with rfl | rfl
    · exact fun q => nb (a.fsb _ q)
    · exact hf
  · intro hc b hb'; simp at hb'
    rcases hb' with rfl | rfl
    · exact nb
    · exact hb hc
  · intro b hb'; simp at hb'
    rcases hb' with rfl | rfl
    · rw [Heap.get?_push_size _ rfl]; simp
    · exact Fx hx fun o q => ⟨_, Heap.get?_push_of_some _ q⟩
  · intro i v h' bad' k hP
    have hd' : DenL c h' bad' ys vs := DenL.carry k _ _ hd
    have hi : i < vs.length := by
      have := (List.getElem?_eq_some_iff.mp (show vs[i]? = some v by simpa using hP)).1; exact this
    obtain ⟨y, hy⟩ : ∃ y, ys[i]? = some y := ⟨_, List.getElem?_eq_getElem (by lia)⟩
    obtain ⟨u, hu, du⟩ := hd'.get hy
    have : u = v := by
      have h1 : vs[i]? = some v := by simpa using hP
      rw [hu] at h1; exact Option.some.inj h1
    subst this
    exact ⟨y, hy, du.1, fun _ => du.2⟩
theorem src_range {r : Addr} {x y z : Int} {t u v : Tok} {cap : Bool} (a : At c A bad fs s) (hr : IsRange s.heap r x y z t u v) (hs : Builtin.Range.small x y z = true) :
    wpAny (model c.prog c.w) A (pyIter (.ref r)) (Src c A target bad fs cap s ((Fy x y z).map .int)) (fun _ _ => False) s := by
  refine wpAny_pyIter_range hr hs ?_
  have hn : 0 ≤ Builtin.Range.rangeSize x y z := by
    unfold Builtin.Range.rangeSize
    split
    · split
      · have : 0 ≤ (y - x - 1) / z := Int.ediv_nonneg (by lia) (by exact Int.le_of_lt ‹_›)
        lia
      · decide
    · split
      · by_cases hz : z = 0
        · subst hz; simp
        · have : 0 ≤ (x - y - 1) / (-z) := Int.ediv_nonneg (by lia) (by lia)
          lia
      · decide
  obtain ⟨n, hn⟩ := Int.eq_ofNat_of_zero_le hn
  have W := Walks.range (prog := c.prog) (w := c.w) a.room.handled s.heap.objs.size x z n
  have nb : ¬ bad s.heap.objs.size := fun q => a.badD _ q (Ba _)
  have hlen : ((Fy x y z).map AV.int).length = n := by simp [Fy, hn]
  refine ⟨s.heap.objs.size, [s.heap.objs.size], [s.heap.objs.size], fun i v _ => i < n ∧ ∃ t, v = .int (x + i * z) t, fun i h => i ≤ n ∧ IsRangeIter h s.heap.objs.size (x + (i : Nat) * z) ((n : Int) - (i : Nat)) z, rfl, ?_, ?_, kpush, ?_, ?_, ?_, ?_, ?_⟩
  · rw [hlen]
    exact {
      sub := fun _ hb => hb
      frame := fun i h h' st hk => ⟨st.1, W.frame i h h' st.2 hk⟩
      turn := fun i s' Q E hi st hQ => W.item i s' _ E hi st.2 fun v h' tk hP st' hk => ⟨v, rfl, letGo_plain (T := "range_iterator") st' rfl (by unfold He; decide) (hQ v h' tk ⟨hi, hP⟩ ⟨hi, st'⟩ hk)⟩
      done := fun s' Q E st hQ => W.done s' Q E st.2 hQ
      there := fun i h st b hb' => by
        simp at hb'; subst hb'; have := st.2; unfold IsRangeIter at this; rw [this]; simp
      self := fun i s' Q E st hQ => W.self i s' Q E st.2 hQ }
  · refine ⟨Nat.zero_le _, ?_⟩
    have : IsRangeIter (s.heap.push { cls := .type "range_iterator", data := .fields #[rawInt x, rawInt (Builtin.Range.rangeSize x y z), rawInt z] }) s.heap.objs.size x (Builtin.Range.rangeSize x y z) z := Heap.get?_push_size _ rfl
    rw [hn] at this
    simpa [hn] using this
  · intro b hb; simp at hb; subst hb; exact Ba _
  · intro b hb; simp at hb; subst hb; exact fun q => nb (a.fsb _ q)
  · intro hc b hb'; simp at hb'; subst hb'; exact nb
  · intro b hb'; simp at hb'; subst hb'
    rw [Heap.get?_push_size _ rfl]; simp
  · intro i v h' bad' k hP
    obtain ⟨hi, t, rfl⟩ := hP
    refine ⟨.int (x + i * z), ?_, by simp [DenT], by intro _ a e; cases e⟩
    simp [Fy, hn, hi]
theorem src_ok {x : AV} {ys : List AV} {v : Value} {cap : Bool} (a : At c A bad fs s) (hi : Et x = some ys) (d : DenR c s.heap bad fs x v) (hb : cap = true → ∀ p, v = .ref p → ¬ bad p) :
    wpAny (model c.prog c.w) A (pyIter v) (Src c A target bad fs cap s ys) (fun _ _ => False) s := by
  obtain ⟨d, hf⟩ := d
  cases x <;> simp only [Et] at hi <;> first | (cases hi; done) | skip
  · cases hi; simp only [DenT] at d; obtain ⟨p, vs, rfl, hp, _, hd⟩ := d
    exact src_list a hp hd.denL (hf p rfl) fun q => hb q p rfl
  · cases hi; simp only [DenT] at d; obtain ⟨p, vs, rfl, hp, _, hd⟩ := d
    exact src_list a hp hd (hf p rfl) fun q => hb q p rfl
  · cases hi; simp only [DenT] at d; obtain ⟨p, vs, rfl, hp, _, hd⟩ := d
    exact src_tuple a hp hd (hf p rfl) fun q => hb q p rfl
end
end Mine
end
section
open PySem PyProof.Rows PySem.SeqAt
namespace Mine
set_option backward.match.sparseCases true
set_option tactic.hygienic false
set_option autoImplicit false
section
variable {prog : Program} {w : World} {A : Around} {E : Value → Shared → Prop} {s : Shared}
theorem nextOf_tup_item {it t : Addr} {i : Nat} {Et : Array Value} {x : Value} {Q : Value → Shared → Prop} (hit : s.heap.IsTupleIter it t i) (ht : s.heap.IsTuple t Et) (hx : Et[i]? = some x)
    (hQ : ∀ h', h'.IsTupleIter it t (i + 1) → Heap.SameBut it s.heap h' → Q x { s with heap := h' }) : wpAny (model prog w) A (Builtin.SmallTypes.nextOf (.ref it)) Q E s := by
  obtain ⟨o, ho, hc, hd⟩ := id hit
  obtain ⟨ol, hol, _, nl, hdl⟩ := ht
  unfold Builtin.SmallTypes.nextOf
  refine wpAny_bind (wpAny_callSpecial?_slot (name := Str.ofString "__next__") hit.typeIs F.slot_tuple_iterator_next (wpAny_call_entry F.slot_tuple_iterator_next hit.typeIs F.entry_tuple_iterator_next ?_ (F.args_tuple_iterator_next_1 _)))
  show wpAny _ _ (field (.ref it) 0 >>= _) _ _ s
  refine wpAny_bind (wpAny_field ho hd (x := .ref t) rfl ?_)
  show wpAny _ _ (if (Value.ref t == Value.none) = true then _ else _) _ _ s
  rw [if_neg (show ¬ ((Value.ref t == Value.none) = true) from Bool.false_ne_true)]
  show wpAny _ _ (field (.ref it) 1 >>= _) _ _ s
  refine wpAny_bind (wpAny_field ho hd (x := .int i 0) rfl ?_)
  show wpAny _ _ (seqItems? (.ref t) >>= _) _ _ s
  refine wpAny_bind (wpAny_seqItems hol hdl ?_)
  simp only [Int.toNat_natCast, hx]
  refine wpAny_bind (wpAny_setField ho hd (by simp) (wpAny_pure ⟨x, rfl, wpAny_pure (hQ _ ?_ (Heap.SameBut.update ..))⟩))
  exact ⟨_, Heap.get?_update_self _ ho (Obj.isFreed_of_fields (Obj.data_mapFields hd _)), (Obj.cls_mapFields ..).trans hc, by rw [Obj.data_mapFields hd]; simp [rawInt]⟩
theorem nextOf_tup_end {it t : Addr} {i : Nat} {Et : Array Value} {Q : Value → Shared → Prop} (hh : A.handled = none) (hit : s.heap.IsTupleIter it t i) (ht : s.heap.IsTuple t Et) (hx : Et[i]? = none)
    (hE : ∀ h' e, Heap.ExtBut it s.heap h' → (∃ o, h'.get? e = some o ∧ o.cls = .type "StopIteration") → E (.ref e) { s with heap := h' }) : wpAny (model prog w) A (Builtin.SmallTypes.nextOf (.ref it)) Q E s := by
  obtain ⟨o, ho, hc, hd⟩ := id hit
  obtain ⟨ol, hol, _, nl, hdl⟩ := ht
  unfold Builtin.SmallTypes.nextOf
  refine wpAny_bind (wpAny_callSpecial?_slot (name := Str.ofString "__next__") hit.typeIs F.slot_tuple_iterator_next (wpAny_call_entry F.slot_tuple_iterator_next hit.typeIs F.entry_tuple_iterator_next ?_ (F.args_tuple_iterator_next_1 _)))
  show wpAny _ _ (field (.ref it) 0 >>= _) _ _ s
  refine wpAny_bind (wpAny_field ho hd (x := .ref t) rfl ?_)
  show wpAny _ _ (if (Value.ref t == Value.none) = true then _ else _) _ _ s
  rw [if_neg (show ¬ ((Value.ref t == Value.none) = true) from Bool.false_ne_true)]
  show wpAny _ _ (field (.ref it) 1 >>= _) _ _ s
  refine wpAny_bind (wpAny_field ho hd (x := .int i 0) rfl ?_)
  show wpAny _ _ (seqItems? (.ref t) >>= _) _ _ s
  refine wpAny_bind (wpAny_seqItems hol hdl ?_)
  simp only [Int.toNat_natCast, hx]
  refine wpAny_bind (wpAny_rule (wpAny_bind (wpAny_setField ho hd (by simp) ?_)))
  show wpAny _ _ (newExc (.type "StopIteration") [] >>= _) _ _ _
  refine wpAny_bind ?_
  simp only [newExc, newTuple]
  refine wpAny_bind (wpAny_newObj_type ?_ (by size_fits))
  refine wpAny_bind (m := firstArgMember _ _) (wpAny_of_eq (a := Value.none) (by first | rfl | (simp only [firstArgMember]; rfl)) ?_)
  refine wpAny_newObj_type ?_ (by size_fits)
  simp only [raiseNew]
  refine wpAny_bind (wpAny_handled ?_)
  first | rw [show A.in1.handled = none from hh] | rw [hh]
  refine wpAny_bind (wpAny_pure (wpAny_throw ?_))
  exact hE _ _ (((Heap.SameBut.update ..).extBut.push _).push _) ⟨_, Heap.get?_push_size _ rfl, rfl⟩
end
theorem drawsTuple {prog : Program} {w : World} {A : Around} (hh : A.handled = none) (it t : Addr) (hne : t ≠ it) (Et : Array Value) :
    Draws prog w A it [it, t] Et.size (fun i v => Et[i]? = some v) (fun i h => h.IsTupleIter it t i ∧ h.IsTuple t Et) where
  live := fun _ _ st => let ⟨o, ho, _⟩ := st.1; ⟨o, ho⟩
  frame := fun _ _ _ st hk => ⟨st.1.at fun o e => hk it (by simp) o e, st.2.at fun o e => hk t (by simp) o e⟩
  item := fun i s Q E hi st hQ => by
    refine nextOf_tup_item st.1 st.2 (x := Et[i]) (by simp [hi]) fun h' hit' hs' => ?_
    exact hQ _ h' s.toks (by simp [hi]) ⟨hit', st.2.extBut hs'.extBut hne⟩ hs'
  done := fun s Q E st hE => nextOf_tup_end hh st.1 st.2 (by simp) hE
structure ZipA (z TI TO i1 i2 : Addr) (f1 f2 : List Addr) : Prop where
  TIz : TI ≠ z
  TOz : TO ≠ z
  i1z : i1 ≠ z
  i2z : i2 ≠ z
  TITO : TI ≠ TO
  TIi1 : TI ≠ i1
  TIi2 : TI ≠ i2
  TOi1 : TO ≠ i1
  TOi2 : TO ≠ i2
  i12 : i1 ≠ i2
  z1 : z ∉ f1
  z2 : z ∉ f2
  TO1 : TO ∉ f1
  TO2 : TO ∉ f2
  a1 : i2 ∉ f1
  a2 : i1 ∉ f2
theorem Fr {prog : Program} {w : World} {A : Around} {it : Addr} {fp : List Addr} {n : Nat} {P : Nat → Value → Prop} {St : Nat → Heap → Prop} (D : Draws prog w A it fp n P St) {i : Nat} {a : Addr} {h h' : Heap}
    (st : St i h) (hs : Heap.ExtBut a h h') (ha : a ∉ fp) : St i h' := D.frame i h h' st fun b hb o e => hs b o (fun q => ha (q ▸ hb)) e
section
variable {prog : Program} {w : World} {A : Around} {E : Value → Shared → Prop} {s : Shared} {z TI TO i1 i2 : Addr} {f1 f2 : List Addr} {n1 n2 k : Nat} {P1 P2 : Nat → Value → Prop} {S1 S2 : Nat → Heap → Prop}
theorem zipn_item {a b : Value} {Q : Value → Shared → Prop} (D : ZipA z TI TO i1 i2 f1 f2) (D1 : Draws prog w A i1 f1 n1 P1 S1) (D2 : Draws prog w A i2 f2 n2 P2 S2) (hk1 : k < n1) (hk2 : k < n2)
    (hz : IsZip s.heap z TI TO .none) (hTI : IsPair s.heap TI (.ref i1) (.ref i2)) (hTO : IsPair s.heap TO a b) (h1 : S1 k s.heap) (h2 : S2 k s.heap)
    (hQ : ∀ x y h' tk, P1 k x → P2 k y → IsZip h' z TI TO (rawInt s.heap.objs.size) → IsPair h' TO x y → S1 (k + 1) h' → S2 (k + 1) h' → IsPair h' s.heap.objs.size x y →
      (∀ c o, c ≠ z → c ≠ TO → c ≠ i1 → c ≠ i2 → s.heap.get? c = some o → h'.get? c = some o) → Q (.ref s.heap.objs.size) { s with heap := h', toks := tk }) :
    wpAny (model prog w) A (Builtin.«zip.__next__» ⟨[.ref z], []⟩) (fun fin s' => ∃ v, fin = .done (.ret v) ∧ Q v s') E s := by
  show wpAny _ _ (field (.ref z) 2 >>= _) _ _ _
  refine wpAny_bind (wpAny_field hz rfl (x := .bool false) rfl ?_)
  show wpAny _ _ (field (.ref z) 3 >>= _) _ _ _
  refine wpAny_bind (wpAny_field hz rfl (x := .ref TI) rfl ?_)
  refine wpAny_bind (wpAny_seqItems hTI rfl ?_)
  show wpAny _ _ (Builtin.SmallTypes.ownedTupleIsFree (.ref z) >>= _) _ _ _
  refine wpAny_bind ?_
  unfold Builtin.SmallTypes.ownedTupleIsFree
  refine wpAny_bind (wpAny_field hz rfl (x := .none) rfl (wpAny_pure ?_))
  simp only [if_true]
  refine wpAny_bind (wpAny_rule ?_)
  refine wpAny_bind (wpAny_field hz rfl (x := .ref TO) rfl ?_)
  refine wpAny_bind (wpAny_setField_rec hz (by simp) fun h₁ hz₁ hs₁ => ?_)
  replace hz₁ : IsZip h₁ z TI TO .ellipsis := hz₁
  refine wpAny_bind ?_
  simp only [List.zipIdx_cons, List.zipIdx_nil, List.forIn_cons, List.forIn_nil]
  refine wpAny_bind (wpAny_bind (wpAny_onRaise ?_))
  show wpAny _ _ (Builtin.SmallTypes.nextOf (.ref i1) >>= _) _ _ _
  refine wpAny_bind (D1.item k _ _ _ hk1 (Fr D1 h1 hs₁.extBut D.z1) fun x h₂ t₂ px h1₂ hs₂ => wpAny_pure ?_)
  have hTO₂ : IsPair h₂ TO a b := hs₂.extBut _ _ D.TOi1 (hs₁.extBut _ _ D.TOz hTO)
  refine wpAny_bind (wpAny_seqItems hTO₂ rfl ?_)
  refine wpAny_bind (wpAny_updateSeq_pair hTO₂ fun h₃ hTO₃ hs₃ => ?_)
  replace hTO₃ : IsPair h₃ TO x b := hTO₃
  refine wpAny_bind (wpAny_letGo (wpAny_pure ?_))
  refine wpAny_bind (wpAny_bind (wpAny_onRaise ?_))
  show wpAny _ _ (Builtin.SmallTypes.nextOf (.ref i2) >>= _) _ _ _
  refine wpAny_bind (D2.item k _ _ _ hk2 (Fr D2 (Fr D2 (Fr D2 h2 hs₁.extBut D.z2) hs₂.extBut D.a2) hs₃.extBut D.TO2) fun y h₄ t₄ py h2₄ hs₄ => wpAny_pure ?_)
  have hTO₄ : IsPair h₄ TO x b := hs₄.extBut _ _ D.TOi2 hTO₃
  refine wpAny_bind (wpAny_seqItems hTO₄ rfl ?_)
  refine wpAny_bind (wpAny_updateSeq_pair hTO₄ fun h₅ hTO₅ hs₅ => ?_)
  replace hTO₅ : IsPair h₅ TO x y := hTO₅
  refine wpAny_bind (wpAny_letGo (wpAny_pure (wpAny_pure ?_)))
  refine wpAny_bind (wpAny_seqItems hTO₅ rfl ?_)
  refine wpAny_bind (wpAny_newTuple ?_)
  have hsz : h₅.objs.size = s.heap.objs.size := by rw [hs₅.1, hs₄.1, hs₃.1, hs₂.1, hs₁.1]
  have hz₅ : IsZip h₅ z TI TO .ellipsis := hs₅.extBut _ _ D.TOz.symm (hs₄.extBut _ _ D.i2z.symm (hs₃.extBut _ _ D.TOz.symm (hs₂.extBut _ _ D.i1z.symm hz₁)))
  have hk₅ : ∀ c o, c ≠ z → c ≠ TO → c ≠ i1 → c ≠ i2 → s.heap.get? c = some o → h₅.get? c = some o := fun c o c1 c2 c3 c4 e =>
    hs₅.extBut _ _ c2 (hs₄.extBut _ _ c4 (hs₃.extBut _ _ c2 (hs₂.extBut _ _ c3 (hs₁.extBut _ _ c1 e))))
  have h1₅ : S1 (k + 1) h₅ := Fr D1 (Fr D1 (Fr D1 h1₂ hs₃.extBut D.TO1) hs₄.extBut D.a1) hs₅.extBut D.TO1
  have h2₅ : S2 (k + 1) h₅ := Fr D2 h2₄ hs₅.extBut D.TO2
  have hzlt : z < h₅.objs.size := Heap.lt_size hz₅
  show wpAny _ _ (Builtin.SmallTypes.ownedTupleHandOut (.ref z) (.ref h₅.objs.size) >>= _) _ _ _
  refine wpAny_bind ?_
  unfold Builtin.SmallTypes.ownedTupleHandOut
  have hz₆ : IsZip (h₅.push { cls := .type "tuple", data := .seq #[x, y] }) z TI TO .ellipsis := Heap.get?_push_of_some _ hz₅
  refine wpAny_bind (wpAny_setField_rec hz₆ (by simp) fun h₇ hz₇ hs₇ => ?_)
  replace hz₇ : IsZip h₇ z TI TO (rawInt h₅.objs.size) := hz₇
  refine wpAny_setField_rec hz₇ (by simp) fun h₈ hz₈ hs₈ => ?_
  replace hz₈ : IsZip h₈ z TI TO (rawInt h₅.objs.size) := hz₈
  have up : ∀ c o, c ≠ z → h₅.get? c = some o → h₈.get? c = some o := fun c o c1 e => hs₈.extBut _ _ c1 (hs₇.extBut _ _ c1 (Heap.get?_push_of_some _ e))
  have hT₈ : IsPair h₈ h₅.objs.size x y := hs₈.extBut _ _ (Nat.ne_of_gt hzlt) (hs₇.extBut _ _ (Nat.ne_of_gt hzlt) (Heap.get?_push_size _ rfl))
  have h1₈ : S1 (k + 1) h₈ := D1.frame _ _ _ h1₅ fun b hb o e => up b o (fun q => D.z1 (q ▸ hb)) e
  have h2₈ : S2 (k + 1) h₈ := D2.frame _ _ _ h2₅ fun b hb o e => up b o (fun q => D.z2 (q ▸ hb)) e
  rw [hsz] at hz₈ hT₈
  refine wpAny_pure ⟨_, rfl, ?_⟩
  show Q (.ref h₅.objs.size) _
  rw [hsz]
  exact hQ x y h₈ t₄ px py hz₈ (up _ _ D.TOz hTO₅) h1₈ h2₈ hT₈ fun c o c1 c2 c3 c4 e => up c o c1 (hk₅ c o c1 c2 c3 c4 e)
theorem zipn_end {a b : Value} {Q : Fin → Shared → Prop} (D : ZipA z TI TO i1 i2 f1 f2) (D1 : Draws prog w A i1 f1 n1 P1 S1) (D2 : Draws prog w A i2 f2 n2 P2 S2) (hend : k = n1 ∨ (k < n1 ∧ k = n2))
    (hz : IsZip s.heap z TI TO .none) (hTI : IsPair s.heap TI (.ref i1) (.ref i2)) (hTO : IsPair s.heap TO a b) (h1 : S1 k s.heap) (h2 : S2 k s.heap)
    (hE : ∀ h' tk e, (∀ c o, c ≠ z → c ≠ TO → c ≠ i1 → c ≠ i2 → s.heap.get? c = some o → h'.get? c = some o) → (∃ o, h'.get? e = some o ∧ o.cls = .type "StopIteration") → E (.ref e) { s with heap := h', toks := tk }) :
    wpAny (model prog w) A (Builtin.«zip.__next__» ⟨[.ref z], []⟩) Q E s := by
  show wpAny _ _ (field (.ref z) 2 >>= _) _ _ _
  refine wpAny_bind (wpAny_field hz rfl (x := .bool false) rfl ?_)
  show wpAny _ _ (field (.ref z) 3 >>= _) _ _ _
  refine wpAny_bind (wpAny_field hz rfl (x := .ref TI) rfl ?_)
  refine wpAny_bind (wpAny_seqItems hTI rfl ?_)
  show wpAny _ _ (Builtin.SmallTypes.ownedTupleIsFree (.ref z) >>= _) _ _ _
  refine wpAny_bind ?_
  unfold Builtin.SmallTypes.ownedTupleIsFree
  refine wpAny_bind (wpAny_field hz rfl (x := .none) rfl (wpAny_pure ?_))
  simp only [if_true]
  refine wpAny_bind (wpAny_rule ?_)
  refine wpAny_bind (wpAny_field hz rfl (x := .ref TO) rfl ?_)
  refine wpAny_bind (wpAny_setField_rec hz (by simp) fun h₁ hz₁ hs₁ => ?_)
  replace hz₁ : IsZip h₁ z TI TO .ellipsis := hz₁
  refine wpAny_bind ?_
  simp only [List.zipIdx_cons, List.zipIdx_nil, List.forIn_cons, List.forIn_nil]
  refine wpAny_bind (wpAny_bind (wpAny_onRaise ?_))
  show wpAny _ _ (Builtin.SmallTypes.nextOf (.ref i1) >>= _) _ _ _
  rcases hend with hk | ⟨hk1, hk2⟩
  · subst hk
    refine wpAny_bind (D1.done _ _ _ (Fr D1 h1 hs₁.extBut D.z1) fun h₂ e hs₂ he => ?_)
    obtain ⟨oe, hoe, hce⟩ := he
    have hz₂ : IsZip h₂ z TI TO .ellipsis := hs₂ _ _ D.i1z.symm hz₁
    have hez : e ≠ z := fun x => by subst x; rw [hz₂] at hoe; cases hoe; simp at hce
    exact wpAny_setField_rec hz₂ (by simp) fun h₃ _ hs₃ => hE h₃ _ e (fun c o c1 _ c3 _ x => hs₃.extBut _ _ c1 (hs₂ _ _ c3 (hs₁.extBut _ _ c1 x))) ⟨oe, hs₃.extBut _ _ hez hoe, hce⟩
  · subst hk2
    refine wpAny_bind (D1.item k _ _ _ hk1 (Fr D1 h1 hs₁.extBut D.z1) fun x h₂ t₂ px h1₂ hs₂ => wpAny_pure ?_)
    have hTO₂ : IsPair h₂ TO a b := hs₂.extBut _ _ D.TOi1 (hs₁.extBut _ _ D.TOz hTO)
    refine wpAny_bind (wpAny_seqItems hTO₂ rfl ?_)
    refine wpAny_bind (wpAny_updateSeq_pair hTO₂ fun h₃ hTO₃ hs₃ => ?_)
    refine wpAny_bind (wpAny_letGo (wpAny_pure ?_))
    refine wpAny_bind (wpAny_bind (wpAny_onRaise ?_))
    show wpAny _ _ (Builtin.SmallTypes.nextOf (.ref i2) >>= _) _ _ _
    refine wpAny_bind (D2.done _ _ _ (Fr D2 (Fr D2 (Fr D2 h2 hs₁.extBut D.z2) hs₂.extBut D.a2) hs₃.extBut D.TO2) fun h₄ e hs₄ he => ?_)
    obtain ⟨oe, hoe, hce⟩ := he
    have hz₄ : IsZip h₄ z TI TO .ellipsis := hs₄ _ _ D.i2z.symm (hs₃.extBut _ _ D.TOz.symm (hs₂.extBut _ _ D.i1z.symm hz₁))
    have hez : e ≠ z := fun x => by subst x; rw [hz₄] at hoe; cases hoe; simp at hce
    exact wpAny_setField_rec hz₄ (by simp) fun h₅ _ hs₅ => hE h₅ _ e (fun c o c1 c2 c3 c4 x => hs₅.extBut _ _ c1 (hs₄ _ _ c4 (hs₃.extBut _ _ c2 (hs₂.extBut _ _ c3 (hs₁.extBut _ _ c1 x))))) ⟨oe, hs₅.extBut _ _ hez hoe, hce⟩
end
theorem walksZip {prog : Program} {w : World} {A : Around} {z TI TO i1 i2 : Addr} {f1 f2 : List Addr} {n1 n2 : Nat} {P1 P2 : Nat → Value → Prop} {S1 S2 : Nat → Heap → Prop} (D : ZipA z TI TO i1 i2 f1 f2)
    (D1 : Draws prog w A.in1 i1 f1 n1 P1 S1) (D2 : Draws prog w A.in1 i2 f2 n2 P2 S2) (hi1 : i1 ∈ f1) (hi2 : i2 ∈ f2) :
    WalksT prog w A z (z :: TI :: TO :: (f1 ++ f2)) [z, TO, i1, i2] (min n1 n2) (fun i vals => ∃ x y, P1 i x ∧ P2 i y ∧ vals = #[x, y])
      (fun i h => IsZip h z TI TO .none ∧ IsPair h TI (.ref i1) (.ref i2) ∧ (∃ a b, IsPair h TO a b) ∧ S1 i h ∧ S2 i h)
      (fun i T h => IsZip h z TI TO (rawInt T) ∧ IsPair h TI (.ref i1) (.ref i2) ∧ (∃ a b, IsPair h TO a b) ∧ S1 (i + 1) h ∧ S2 (i + 1) h ∧ T ≠ z ∧ T ≠ TO ∧ T ≠ i1 ∧ T ≠ i2) where
  sub := fun c hc => by
    simp at hc ⊢
    rcases hc with rfl | rfl | rfl | rfl
    · exact .inl rfl
    · exact .inr (.inr (.inl rfl))
    · exact .inr (.inr (.inr (.inl hi1)))
    · exact .inr (.inr (.inr (.inr hi2)))
  frame := fun i h h' hst hk => by
    obtain ⟨hz, hTI, ⟨a, b, hTO⟩, h1, h2⟩ := hst
    exact ⟨hk z (by simp) _ hz, hk TI (by simp) _ hTI, ⟨a, b, hk TO (by simp) _ hTO⟩, D1.frame _ _ _ h1 fun b hb => hk b (by simp [hb]), D2.frame _ _ _ h2 fun b hb => hk b (by simp [hb])⟩
  item := fun i s Q E hi hst hQ => by
    obtain ⟨hz, hTI, ⟨a, b, hTO⟩, h1, h2⟩ := hst
    have hT : s.TypeIs (.ref z) "zip" := ⟨_, hz, rfl⟩
    have lt : ∀ {c o}, s.heap.get? c = some o → s.heap.objs.size ≠ c := fun e => Nat.ne_of_gt (Heap.lt_size e)
    unfold pyNext
    refine wpAny_bind (wpAny_attempt (wpAny_callSpecial?_slot (name := Str.ofString "__next__") hT F.slot_zip_next (wpAny_call_entry F.slot_zip_next hT F.entry_zip_next
      (zipn_item D D1 D2 (Nat.lt_of_lt_of_le hi (Nat.min_le_left ..)) (Nat.lt_of_lt_of_le hi (Nat.min_le_right ..)) hz hTI hTO h1 h2 fun x y h' tk px py a1 a2 a3 a4 a5 hk => wpAny_pure ?_) (F.args_zip_next_1 _))))
    exact hQ s.heap.objs.size #[x, y] h' tk ⟨x, y, px, py, rfl⟩ (Nat.le_refl _) ⟨_, a5, rfl, _, rfl⟩
      ⟨a1, hk _ _ D.TIz D.TITO D.TIi1 D.TIi2 hTI, ⟨_, _, a2⟩, a3, a4, lt hz, lt hTO, (by obtain ⟨_, e⟩ := D1.live _ _ h1; exact lt e), (by obtain ⟨_, e⟩ := D2.live _ _ h2; exact lt e)⟩
      fun c o hc e => hk c o (fun x => hc (by simp [x])) (fun x => hc (by simp [x])) (fun x => hc (by simp [x])) (fun x => hc (by simp [x])) e
  go := fun elts k pos i T s Q E hm hQ => by
    obtain ⟨hz, hTI, ⟨a, b, hTO⟩, h1, h2, _⟩ := hm
    refine wpAny_letOwnedTupleGo_zip hz fun h' hz' hs' => hQ h' ⟨hz', hs'.extBut _ _ D.TIz hTI, ⟨a, b, hs'.extBut _ _ D.TOz hTO⟩, Fr D1 h1 hs'.extBut D.z1, Fr D2 h2 hs'.extBut D.z2⟩
      fun c o hc e => hs'.extBut _ _ (fun x => hc (by simp [x])) e
  apart := fun i T h hm hT => by
    obtain ⟨_, _, _, _, _, t1, t2, t3, t4⟩ := hm
    simp at hT
    rcases hT with rfl | rfl | rfl | rfl
    · exact t1 rfl
    · exact t2 rfl
    · exact t3 rfl
    · exact t4 rfl
  done := fun s Q E hst hQ => by
    obtain ⟨hz, hTI, ⟨a, b, hTO⟩, h1, h2⟩ := hst
    have hT : s.TypeIs (.ref z) "zip" := ⟨_, hz, rfl⟩
    have hend : min n1 n2 = n1 ∨ (min n1 n2 < n1 ∧ min n1 n2 = n2) := by lia
    unfold pyNext
    refine wpAny_bind (wpAny_attempt (wpAny_callSpecial?_slot (name := Str.ofString "__next__") hT F.slot_zip_next (wpAny_call_entry F.slot_zip_next hT F.entry_zip_next
      (zipn_end D D1 D2 hend hz hTI hTO h1 h2 fun h' tk e hk he => ?_) (F.args_zip_next_1 _))))
    obtain ⟨o, ho, hc⟩ := he
    refine wpAny_bind (wpAny_isInstance (T := "StopIteration") (b := true) ⟨o, ho, hc⟩ isSubtype_stop ?_)
    exact wpAny_pure (hQ _ tk fun c o hc e => hk c o (fun x => hc (by simp [x])) (fun x => hc (by simp [x])) (fun x => hc (by simp [x])) (fun x => hc (by simp [x])) e)
  self := fun i s Q E hst hQ => wpAny_pyIter_zip hst.1 hQ
theorem Je.ofWalksT {c : Cx} {A : Around} {elts : List Expr} {kk : Nat} {pos : Pos} {I : Addr} {fp wr : List Addr} {n : Nat} {Pt : Nat → Array Value → Prop} {St : Nat → Heap → Prop} {Mid : Nat → Addr → Heap → Prop} (W : WalksT c.prog c.w A I fp wr n Pt St Mid)
    (hfp : ∀ i h, St i h → ∀ b ∈ fp, h.get? b ≠ none) : Je c A (.Tuple elts kk pos) I fp wr n (fun i v h => ∃ T vals, v = .ref T ∧ Pt i vals ∧ h.IsTuple T vals) St where
  sub := W.sub
  frame := W.frame
  turn := fun i s Q E hi st hQ => W.item i s _ E hi st fun T vals h' tk hP _ hT hM hk => ⟨.ref T, rfl, W.go elts kk pos i T _ _ E hM fun h'' st'' hk' =>
    hQ (.ref T) h'' tk ⟨T, vals, rfl, hP, hT.at fun o e => hk' T o (W.apart _ _ _ hM) e⟩ st'' fun b o hb e => hk' b o hb (hk b o hb e)⟩
  done := W.done
  there := hfp
  self := W.self
end Mine
end
section
open PySem PyProof.Rows PySem.SeqAt
namespace Mine
set_option backward.match.sparseCases true
set_option tactic.hygienic false
set_option autoImplicit false
abbrev tz1 (h : Heap) (l1 : Addr) : Heap := h.push { cls := .type "tuple_iterator", data := .fields #[.ref l1, .int 0 0] }
abbrev tz2 (h : Heap) (l1 l2 : Addr) : Heap := (tz1 h l1).push { cls := .type "list_iterator", data := .fields #[.ref l2, .int 0 0] }
abbrev tz3 (h : Heap) (l1 l2 : Addr) : Heap := (tz2 h l1 l2).push { cls := .type "tuple", data := .seq #[.ref h.objs.size, .ref (tz1 h l1).objs.size] }
abbrev tz4 (h : Heap) (l1 l2 : Addr) : Heap := (tz3 h l1 l2).push { cls := .type "tuple", data := .seq #[.none, .none] }
abbrev tz5 (h : Heap) (l1 l2 : Addr) : Heap := (tz4 h l1 l2).push { cls := .type "zip", data := .fields #[.none, .bool false, .bool false, .ref (tz2 h l1 l2).objs.size, .ref (tz3 h l1 l2).objs.size] }
theorem meets_zip_tl (l1 l2 : Addr) (xs ys : Array Value) :
    Meets (Builtin.«zip.__new__» ⟨[.type "zip", .ref l1, .ref l2], []⟩) (fun _ R s => s.heap.IsTuple l1 xs ∧ s.heap.IsList l2 ys ∧ R (.ok (.ret (.ref (tz4 s.heap l1 l2).objs.size))) { s with heap := tz5 s.heap l1 l2 }) :=
  .of_wp fun prog w A R s h => by
    obtain ⟨hp, g, d, tk, os⟩ := s; obtain ⟨hl1, hl2, h⟩ := h
    have hsub := sub_zip
    have hL1 : Heap.IsTuple (Shared.heap ⟨hp, g, d, tk, os⟩) l1 xs := hl1
    have hL2 : Heap.IsList (Shared.heap ⟨hp.push { cls := .type "tuple_iterator", data := .fields #[.ref l1, .int 0 0] }, g, d, tk, os⟩) l2 ys := Heap.IsList.push hl2 _
    wp_walk using wpAny_pyIter_tuple hL1, wpAny_pyIter_list hL2
    exact ⟨_, rfl, h⟩
structure ZipMade (F : Heap → Prop) (h h' : Heap) (l2 : Addr) : Prop where
  z : IsZip h' (h.objs.size + 4) (h.objs.size + 2) (h.objs.size + 3) .none
  ti : IsPair h' (h.objs.size + 2) (.ref h.objs.size) (.ref (h.objs.size + 1))
  to : IsPair h' (h.objs.size + 3) .none .none
  i1 : F h'
  i2 : h'.IsListIter (h.objs.size + 1) l2 0
  keep : ∀ c o, h.get? c = some o → h'.get? c = some o
section
variable {prog : Program} {w : World} {A : Around} {E : Value → Shared → Prop} {s : Shared}
theorem call_zip_tl {l1 l2 : Addr} {xs ys : Array Value} {Q : Value → Shared → Prop} (hl1 : s.heap.IsTuple l1 xs) (hl2 : s.heap.IsList l2 ys)
    (h : ∀ h', ZipMade (fun h' => h'.IsTupleIter s.heap.objs.size l1 0) s.heap h' l2 → Q (.ref (s.heap.objs.size + 4)) { s with heap := h' }) :
    wpAny (model prog w) A (call (.type "zip") [.ref l1, .ref l2]) Q E s := by
  refine callType_new F.called_zip (by decide) (F.typeCall_zip_2 _ _) (F.newCall_zip_2 _ _) (fun obj => F.args_object_init_3 obj _ _) F.entry_zip_new (meets_zip_tl l1 l2 xs ys) ⟨hl1, hl2, ?_⟩
  have z1 : (tz1 s.heap l1).objs.size = s.heap.objs.size + 1 := Heap.size_push ..
  have z2 : (tz2 s.heap l1 l2).objs.size = s.heap.objs.size + 2 := by rw [Heap.size_push, z1]
  have z3 : (tz3 s.heap l1 l2).objs.size = s.heap.objs.size + 3 := by rw [Heap.size_push, z2]
  have z4 : (tz4 s.heap l1 l2).objs.size = s.heap.objs.size + 4 := by rw [Heap.size_push, z3]
  have g5 : (tz5 s.heap l1 l2).get? (tz4 s.heap l1 l2).objs.size = some _ := Heap.get?_push_size _ rfl
  have g4 : (tz5 s.heap l1 l2).get? (tz3 s.heap l1 l2).objs.size = some _ := Heap.get?_push_of_some _ (Heap.get?_push_size _ rfl)
  have g3 : (tz5 s.heap l1 l2).get? (tz2 s.heap l1 l2).objs.size = some _ := Heap.get?_push_of_some _ (Heap.get?_push_of_some _ (Heap.get?_push_size _ rfl))
  have g2 : (tz5 s.heap l1 l2).get? (tz1 s.heap l1).objs.size = some _ := Heap.get?_push_of_some _ (Heap.get?_push_of_some _ (Heap.get?_push_of_some _ (Heap.get?_push_size _ rfl)))
  have g1 : (tz5 s.heap l1 l2).get? s.heap.objs.size = some _ := Heap.get?_push_of_some _ (Heap.get?_push_of_some _ (Heap.get?_push_of_some _ (Heap.get?_push_of_some _ (Heap.get?_push_size _ rfl))))
  show _ ∧ _
  rw [z2, z3, z4] at g5
  rw [z1, z2] at g3
  rw [z3] at g4
  rw [z1] at g2
  rw [z4]
  exact ⟨⟨_, g5, rfl⟩, h _ ⟨g5, g3, g4, ⟨_, g1, rfl, rfl⟩, ⟨_, g2, rfl, rfl⟩, fun c o x => Heap.get?_push_of_some _ (Heap.get?_push_of_some _ (Heap.get?_push_of_some _ (Heap.get?_push_of_some _ (Heap.get?_push_of_some _ x))))⟩⟩
theorem call_zip_ll {l1 l2 : Addr} {xs ys : Array Value} {Q : Value → Shared → Prop} (hl1 : s.heap.IsList l1 xs) (hl2 : s.heap.IsList l2 ys)
    (h : ∀ h', ZipMade (fun h' => h'.IsListIter s.heap.objs.size l1 0) s.heap h' l2 → Q (.ref (s.heap.objs.size + 4)) { s with heap := h' }) :
    wpAny (model prog w) A (call (.type "zip") [.ref l1, .ref l2]) Q E s := call_zip_2 hl1 hl2 fun h' a1 a2 a3 a4 a5 _ a7 => h h' ⟨a1, a2, a3, a4, a5, a7⟩
end
theorem zipL_len : ∀ xs ys : List AV, (zipL xs ys).length = min xs.length ys.length
  | [], _ => by simp [zipL]
  | _ :: _, [] => by simp [zipL]
  | x :: r, y :: t => by show (zipL r t).length + 1 = _; rw [zipL_len r t, List.length_cons, List.length_cons]; lia
theorem zipL_get : ∀ {xs ys : List AV} {i : Nat} {x y : AV}, xs[i]? = some x → ys[i]? = some y → (zipL xs ys)[i]? = some (.tup [x, y])
  | [], _, i, x, y, h, _ => by simp at h
  | _ :: _, [], i, x, y, _, h => by simp at h
  | a :: r, b :: t, 0, x, y, h, h' => by cases h; cases h'; rfl
  | a :: r, b :: t, i + 1, x, y, h, h' => zipL_get (xs := r) (ys := t) h h'
theorem enumL_len : ∀ (n : Nat) (xs : List AV), (Hz n xs).length = xs.length
  | _, [] => rfl
  | n, x :: r => congrArg (· + 1) (enumL_len (n + 1) r)
theorem enumL_get : ∀ {n : Nat} {xs : List AV} {i : Nat} {x : AV}, xs[i]? = some x → (Hz n xs)[i]? = some (.tup [.int (n + i : Nat), x])
  | n, [], i, x, h => by simp at h
  | n, a :: r, 0, x, h => by cases h; rfl
  | n, a :: r, i + 1, x, h => by
    have := enumL_get (n := n + 1) (xs := r) (i := i) h
    rw [show n + 1 + i = n + (i + 1) by lia] at this
    exact this
section
variable {c : Cx} {A : Around} {bad : Addr → Prop} {fs : List Addr} {s : Shared} {elts : List Expr} {kk : Nat} {pos : Pos} {cap : Bool}
theorem den_at {xs : List AV} {vs : List Value} {h : Heap} {i : Nat} {v : Value} (hd : DenL c h bad xs vs) (hv : vs[i]? = some v) : ∃ x, xs[i]? = some x ∧ Den c h bad x v := by
  have hi := (List.getElem?_eq_some_iff.mp hv).1
  rw [hd.length] at hi
  have hx := List.getElem?_eq_getElem hi
  obtain ⟨w, hw, dw⟩ := hd.get hx
  rw [hv] at hw
  obtain rfl := Option.some.inj hw
  exact ⟨_, hx, dw⟩
theorem den_pair {h : Heap} {x y : AV} {v u : Value} {T : Addr} (dx : Den c h bad x v) (dy : Den c h bad y u) (hT : h.IsTuple T #[v, u]) : DenT c h bad (.tup [x, y]) (.ref T) := by
  simp only [DenT]
  exact ⟨T, [v, u], rfl, hT, show 2 ≤ LIM by decide, by simp only [DenL]; exact ⟨v, [u], rfl, dx, u, [], rfl, dy, rfl⟩⟩
theorem zipA_new {n l1 l2 : Nat} (h1 : l1 < n) (h2 : l2 < n) : ZipA (n + 4) (n + 2) (n + 3) n (n + 1) [n, l1] [n + 1, l2] := by
  have e : ∀ (a b k : Nat), (a ≠ b ∧ a ≠ k) → a ∉ ([b, k] : List Nat) := fun a b k h q => by
    rcases List.mem_cons.mp q with q | q
    · exact h.1 q
    · exact h.2 (List.mem_singleton.mp q)
  exact ⟨show (n + 2 : Nat) ≠ n + 4 by lia, show (n + 3 : Nat) ≠ n + 4 by lia, show (n : Nat) ≠ n + 4 by lia, show (n + 1 : Nat) ≠ n + 4 by lia, show (n + 2 : Nat) ≠ n + 3 by lia, show (n + 2 : Nat) ≠ n by lia,
    show (n + 2 : Nat) ≠ n + 1 by lia, show (n + 3 : Nat) ≠ n by lia, show (n + 3 : Nat) ≠ n + 1 by lia, show (n : Nat) ≠ n + 1 by lia,
    e _ _ _ ⟨by lia, by lia⟩, e _ _ _ ⟨by lia, by lia⟩, e _ _ _ ⟨by lia, by lia⟩, e _ _ _ ⟨by lia, by lia⟩, e _ _ _ ⟨by lia, by lia⟩, e _ _ _ ⟨by lia, by exact Nat.ne_of_gt ‹_›⟩⟩
theorem src_zipG {l1 l2 : Addr} {S1 : Nat → Heap → Prop} {xs ys : List AV} {vs ws : List Value} (a : At c A bad fs s) (h1 : s.heap.get? l1 ≠ none) (hl2 : s.heap.IsList l2 ws.toArray)
    (D1 : Draws c.prog c.w A.in1 s.heap.objs.size [s.heap.objs.size, l1] vs.length (fun i v => vs[i]? = some v) S1) (hS : ∀ i h, S1 i h → h.get? l1 ≠ none) {h' : Heap} (hz : ZipMade (S1 0) s.heap h' l2)
    (hx : DenL c s.heap bad xs vs) (hy : DenL c s.heap bad ys ws) (f1 : l1 ∉ fs) (f2 : l2 ∉ fs) (b1 : cap = true → ¬ bad l1) (b2 : cap = true → ¬ bad l2) :
    wpAny (model c.prog c.w) A (pyIter (.ref (s.heap.objs.size + 4))) (Src c A (.Tuple elts kk pos) bad fs cap s (zipL xs ys)) (fun _ _ => False) { s with heap := h' } := by
  refine wpAny_pyIter_zip hz.z ?_
  have hh := a.room.handled
  have hx2 : s.heap.get? l2 ≠ none := by obtain ⟨o, ho, _⟩ := hl2; exact nn ho
  have lt1 : l1 < s.heap.objs.size := by cases q : s.heap.get? l1 with | none => exact absurd q h1 | some o => exact Heap.lt_size q
  have lt2 : l2 < s.heap.objs.size := by obtain ⟨o, ho, _⟩ := hl2; exact Heap.lt_size ho
  have D2 := Draws.list (prog := c.prog) (w := c.w) (A := A.in1) hh (s.heap.objs.size + 1) l2 (Nat.ne_of_lt (Nat.lt_succ_of_lt lt2)) ws.toArray
  have fresh : ∀ k, s.heap.get? (s.heap.objs.size + k) = none := fun k => by
    cases q : s.heap.get? (s.heap.objs.size + k) with
    | none => rfl
    | some o => exact absurd (Heap.lt_size q) (Nat.not_lt.mpr (Nat.le_add_right _ _))
  have nb : ∀ k, ¬ bad (s.heap.objs.size + k) := fun k q => a.badD _ q (fresh k)
  have nf : ∀ k, s.heap.objs.size + k ∉ fs := fun k q => nb k (a.fsb _ q)
  have W := walksZip (z := s.heap.objs.size + 4) (TI := s.heap.objs.size + 2) (TO := s.heap.objs.size + 3) (i1 := s.heap.objs.size) (i2 := s.heap.objs.size + 1) (f1 := [s.heap.objs.size, l1]) (f2 := [s.heap.objs.size + 1, l2])
    (zipA_new lt1 lt2) D1 D2 List.mem_cons_self List.mem_cons_self
  have T := Je.ofWalksT (c := c) (elts := elts) (kk := kk) (pos := pos) W fun i h st b hb => by
    obtain ⟨z, ti, ⟨p, q, to⟩, s1, s2⟩ := st
    simp only [List.mem_cons, List.cons_append, List.nil_append, List.not_mem_nil, or_false] at hb
    rcases hb with rfl | rfl | rfl | rfl | rfl | rfl | rfl
    · exact nn z
    · exact nn ti
    · exact nn to
    · obtain ⟨o, e⟩ := D1.live _ _ s1; exact nn e
    · exact hS _ _ s1
    · obtain ⟨o, e⟩ := D2.live _ _ s2; exact nn e
    · obtain ⟨o, e, _⟩ := s2.2; exact nn e
  have hn : min vs.length ws.toArray.size = (zipL xs ys).length := by rw [zipL_len, hx.length, List.size_toArray, hy.length]
  rw [hn] at T
  have new : ∀ b ∈ [s.heap.objs.size + 4, s.heap.objs.size + 3, s.heap.objs.size, s.heap.objs.size + 1], ∃ k, b = s.heap.objs.size + k := fun b hb => by
    simp only [List.mem_cons, List.not_mem_nil, or_false] at hb
    rcases hb with rfl | rfl | rfl | rfl
    · exact ⟨4, rfl⟩
    · exact ⟨3, rfl⟩
    · exact ⟨0, rfl⟩
    · exact ⟨1, rfl⟩
  have all : ∀ b ∈ (s.heap.objs.size + 4) :: (s.heap.objs.size + 2) :: (s.heap.objs.size + 3) :: ([s.heap.objs.size, l1] ++ [s.heap.objs.size + 1, l2]), (∃ k, b = s.heap.objs.size + k) ∨ b = l1 ∨ b = l2 := fun b hb => by
    simp only [List.mem_cons, List.cons_append, List.nil_append, List.not_mem_nil, or_false] at hb
    rcases hb with rfl | rfl | rfl | rfl | rfl | rfl | rfl
    · exact .inl ⟨4, rfl⟩
    · exact .inl ⟨2, rfl⟩
    · exact .inl ⟨3, rfl⟩
    · exact .inl ⟨0, rfl⟩
    · exact .inr (.inl rfl)
    · exact .inl ⟨1, rfl⟩
    · exact .inr (.inr rfl)
  have st0 : _ := (⟨hz.z, hz.ti, ⟨_, _, hz.to⟩, hz.i1, hz.i2, hl2.at fun o e => hz.keep _ o e⟩ : IsZip h' (s.heap.objs.size + 4) (s.heap.objs.size + 2) (s.heap.objs.size + 3) .none ∧ IsPair h' (s.heap.objs.size + 2) (.ref s.heap.objs.size) (.ref (s.heap.objs.size + 1)) ∧ (∃ a b, IsPair h' (s.heap.objs.size + 3) a b) ∧ S1 0 h' ∧ h'.IsListIter (s.heap.objs.size + 1) l2 0 ∧ h'.IsList l2 ws.toArray)
  refine ⟨_, _, _, _, _, rfl, T, st0, ⟨h', s.toks, rfl, .of hz.keep⟩, ?_, ?_, ?_, fun b hb => T.there 0 h' st0 b hb, ?_⟩
  · intro b hb; obtain ⟨k, rfl⟩ := new b hb; exact fresh k
  · intro b hb
    rcases all b hb with ⟨k, rfl⟩ | rfl | rfl
    · exact nf k
    · exact f1
    · exact f2
  · intro hc b hb
    rcases all b hb with ⟨k, rfl⟩ | rfl | rfl
    · exact nb k
    · exact b1 hc
    · exact b2 hc
  · intro i v h'' bad' k hP
    obtain ⟨T, vals, rfl, ⟨x, y, px, py, rfl⟩, hT⟩ := hP
    obtain ⟨X, hX, dX⟩ := den_at (DenL.carry k _ _ hx) px
    obtain ⟨Y, hY, dY⟩ := den_at (DenL.carry k _ _ hy) (show ws[i]? = some y by simpa using py)
    exact ⟨_, zipL_get hX hY, den_pair dX dY hT, fun q => by cases q⟩
end
end Mine
end
section
open PySem PyProof.Rows PySem.SeqAt
namespace Mine
set_option tactic.hygienic false
set_option autoImplicit false
noncomputable def Gh (h : Heap) (fs : List Addr) : Heap := fs.foldl (fun h a => h.hide a) h
noncomputable def ExcPost (c : Cx) (A : Around) (s : Shared) (e : Value) (s' : Shared) : Prop :=
  ∃ ea a0 l h' tk, e = .ref ea ∧ A.frames = some l ∧ s' = { s with heap := h', toks := tk } ∧ Kp (Ac A) s.heap h' ∧ Heap.FlyingW (Gh s.heap (Ac A)) l ea (.type "ValueError") a0 h'
noncomputable def ResPost (c : Cx) (A : Around) (bad : Addr → Prop) (fresh : Bool) (s : Shared) (r : Res) (v : Value) (s' : Shared) : Prop :=
  ∃ x, r = .val x ∧ PE c (Ac A) bad true fresh s x v s'
noncomputable def ResExc (c : Cx) (A : Around) (s : Shared) (r : Res) (e : Value) (s' : Shared) : Prop := r = .exc ∧ ExcPost c A s e s'
noncomputable def FnOk (c : Cx) (d : Nat) (f : Nat) (args : List AV) (r : Res) : Prop :=
  ∀ (A : Around) (s : Shared) (vs : List Value) (bad : Addr → Prop), Room A d → FrOk A s.heap → (∀ b o, c.hG.get? b = some o → s.heap.get? b = some o) → (∀ b, bad b → c.hG.get? b = none) → (∀ b, bad b → s.heap.get? b ≠ none) →
    (∀ b ∈ Ac A, bad b) → DenL c s.heap bad args vs →
    wpAny (model c.prog c.w) A (call (.ref (c.fa f)) vs) (ResPost c A bad (c.fresh f) s r) (ResExc c A s r) s
noncomputable def SE (c : Cx) (d : Nat) (ce : CE) (cap : Bool) (e : Expr) (m : ME) : Prop :=
  ∀ (A : Around) (env : Env) (σ : St) (bad : Addr → Prop) (s : Shared) (av : AV), Room A d → EVis c A ce env σ bad s.heap → Ae c.G c.F m σ = some av →
    wpAny (model c.prog c.w) A (eval e env) (PE c (Ac A) bad cap (Ig c.fresh m) s av) (fun _ _ => False) s
noncomputable def SB (c : Cx) (d : Nat) (ce : CE) (e : Expr) (m : ME) : Prop :=
  ∀ (A : Around) (env : Env) (σ : St) (bad : Addr → Prop) (s : Shared) (b : Bool), Room A d → EVis c A ce env σ bad s.heap → Bc c.G c.F m σ = some b →
    wpAny (model c.prog c.w) A (isTrue e env (eval e env)) (fun b' s' => b' = b ∧ KpS (Ac A) s s') (fun _ _ => False) s
theorem Room.le {A : Around} {d d' : Nat} (r : Room A d) (h : d' ≤ d) : Room A d' := ⟨r.handled, by have := r.depth; lia, by have := r.units; lia, r.frames⟩
theorem EVis.at {c : Cx} {A : Around} {ce : CE} {env : Env} {σ : St} {bad : Addr → Prop} {s : Shared} {d : Nat} (ok : c.Ok) (r : Room A d) (x : EVis c A ce env σ bad s.heap) : At c A bad (Ac A) s :=
  ⟨ok, r.le (Nat.zero_le _), x.ground, x.badD, x.fsb⟩
theorem EVis.kpS {c : Cx} {A : Around} {ce : CE} {env : Env} {σ : St} {bad : Addr → Prop} {s s' : Shared} (x : EVis c A ce env σ bad s.heap) (k : KpS (Ac A) s s') : EVis c A ce env σ bad s'.heap := x.kp k.heap
theorem DenR.kpS {c : Cx} {A : Around} {x : AV} {v : Value} {bad : Addr → Prop} {s s' : Shared} (d : DenR c s.heap bad (Ac A) x v) (k : KpS (Ac A) s s') (hf : ∀ b ∈ Ac A, bad b) : DenR c s'.heap bad (Ac A) x v := d.kp k.heap hf
theorem PE.after {c : Cx} {fs : List Addr} {bad : Addr → Prop} {cap fr : Bool} {s₀ s s' : Shared} {z : AV} {r : Value} (k : KpS fs s₀ s) (p : PE c fs bad cap fr s z r s') : PE c fs bad cap fr s₀ z r s' :=
  ⟨k.trans p.1, p.2.1, p.2.2.1, fun e a q => k.heap.dom (p.2.2.2 e a q)⟩
theorem PE.drop {c : Cx} {fs : List Addr} {bad : Addr → Prop} {cap fr : Bool} {s s' : Shared} {z : AV} {r : Value} (p : PE c fs bad cap fr s z r s') : PE c fs bad cap false s z r s' := ⟨p.1, p.2.1, p.2.2.1, fun e => by cases e⟩
theorem PE.uncap {c : Cx} {fs : List Addr} {bad : Addr → Prop} {fr : Bool} {s s' : Shared} {z : AV} {r : Value} (p : PE c fs bad true fr s z r s') (cap : Bool) : PE c fs bad cap fr s z r s' := ⟨p.1, p.2.1, fun _ => p.2.2.1 rfl, p.2.2.2⟩
section
variable {c : Cx} {d : Nat} {ce : CE} {cap : Bool}
theorem SE.const_int (i : Int) (k : Nat) (p : Pos) : SE c d ce cap (.Constant (.int i) k p) (.lit (.int i)) := fun A env σ bad s av r v e => by
  simp only [K9] at e; cases e
  exact wpAny_Constant_int (.int (.tok ..))
theorem SE.const_none (k : Nat) (p : Pos) : SE c d ce cap (.Constant .none k p) (.lit .none) := fun A env σ bad s av r v e => by
  simp only [K9] at e; cases e
  exact wpAny_Constant_none (.vnone (.refl ..))
theorem SE.const_bool (b : Bool) (k : Nat) (p : Pos) : SE c d ce cap (.Constant (.bool b) k p) (.lit (.bool b)) := fun A env σ bad s av r v e => by
  simp only [K9] at e; cases e
  exact wpAny_Constant_bool (.bool (.refl ..))
theorem SE.const_str (x : Str) (k : Nat) (p : Pos) (hx : x.cps.size ≤ LIM) : SE c d ce cap (.Constant (.str x) k p) (.lit (.str x.cps.toList)) := fun A env σ bad s av r v e => by
  simp only [K9] at e; cases e
  refine wpAny_Constant_str ?_
  have := PE.str (c := c) (fs := Ac A) (bad := bad) (cap := cap) (fr := Ig c.fresh (.lit (.str x.cps.toList))) (t := s.toks) (KpS.tok (Ac A) s (s.toks + 1)) (x := x.cps.toList) (by simpa using hx)
  simpa using this
theorem load_var {A : Around} {env : Env} {s : Shared} {x : Str} {v : Value} {Q : Value → Shared → Prop} {E : Value → Shared → Prop} {p : Pos} (hk : env.scope.kind = .function) (hd : (x == ("__debug__" : Str)) = false) (l : Gz env s.heap x v) (h : Q v s) :
    wpAny (model c.prog c.w) A (eval (.Name x p) env) Q E s := by
  refine wpAny_Name ?_ hd
  rcases l with ⟨e, m, n, q⟩ | ⟨e, a, q, n⟩
  · exact wpAny_loadName_local hk e n q h
  · exact wpAny_loadName_cell hk e q n h
theorem SE.var {x : Str} {i : Nat} (p : Pos) (hd : (x == ("__debug__" : Str)) = false) (hv : ce.vm.lookup x = some i) : SE c d ce true (.Name x p) (.var i) := fun A env σ bad s av r v e => by
  have q := iF e
  obtain ⟨u, l, dn, nb⟩ := v.var x i false _ hv q
  exact load_var v.kind hd l ⟨.refl .., dn, fun _ => nb rfl, fun e => by cases e⟩
theorem SE.rd {x : Str} {i : Nat} (p : Pos) (hd : (x == ("__debug__" : Str)) = false) (hv : ce.vm.lookup x = some i) : SE c d ce false (.Name x p) (.rd i) := fun A env σ bad s av r v e => by
  obtain ⟨_, _, q, e⟩ := iO e
  obtain rfl := Option.some.inj e
  obtain ⟨u, l, dn, nb⟩ := v.var x i _ _ hv q
  exact load_var v.kind hd l ⟨.refl .., dn, fun e => (by cases e), fun e => (by cases e)⟩
theorem GlobIs.load {A : Around} {env : Env} {s : Shared} {x : Str} {v : Value} {Q : Value → Shared → Prop} {E : Value → Shared → Prop} {p : Pos} {M : Model} {h : Heap} (g : GlobIs h x v) (hk : env.scope.kind = .function) (hg : env.globals = mainGlobals) (hb : env.builtins = builtinsNs)
    (hx : env.kindOf x = some .globalImplicit) (hd : (x == ("__debug__" : Str)) = false) (k : ∀ b o, h.get? b = some o → s.heap.get? b = some o) (q : Q v s) : wpAny M A (eval (.Name x p) env) Q E s := by
  obtain ⟨mg, mb, h1, h2, h3⟩ := g
  refine Calls.Name_function_global hk hx ?_ hd
  rcases h3 with h3 | ⟨h3, h4⟩
  · exact Calls.loadGlobal_global (by rw [hg]; exact h1.keeps k) h3 q
  · exact Calls.loadGlobal_builtin (by rw [hg]; exact h1.keeps k) h3 (by rw [hb]; exact h2.keeps k) h4 q
set_option tactic.hygienic true in
theorem ce_glob {x : Str} {k : GK} (h : ce.glob x = some k) : ce.scope.names.lookup x = some .globalImplicit ∧ ce.gt.lookup x = some k := by
  unfold CE.glob at h
  split at h
  · cases h
  · split at h
    · rename_i q; exact ⟨by simpa using q, h⟩
    · cases h
set_option tactic.hygienic true in
theorem Bf {x : Str} {k : GK} (h : ce.glob x = some k) : (x == ("__debug__" : Str)) = false := by
  unfold CE.glob at h
  split at h
  · cases h
  · rename_i q; simpa using q
theorem El {A A' : Around} {env : Env} {σ : St} {bad : Addr → Prop} {s : Shared} {x : Str} {k : GK} {p : Pos} {Q : Value → Shared → Prop} {E : Value → Shared → Prop} (ok : c.Ok) (v : EVis c A ce env σ bad s.heap) (hx : ce.glob x = some k) (hd : (x == ("__debug__" : Str)) = false)
    (h : ∀ u, Ge c x k u → Q u s) : wpAny (model c.prog c.w) A' (eval (.Name x p) env) Q E s := by
  obtain ⟨h1, h2⟩ := ce_glob hx
  rw [v.gt] at h2
  obtain ⟨u, g, m⟩ := ok.glob x k h2
  exact g.load v.kind v.globs v.blts (v.gk x h1) hd v.ground (h u m)
theorem SE.glob {x : Str} (ok : c.Ok) (p : Pos) (hd : (x == ("__debug__" : Str)) = false) (hx : ce.glob x = some .tab) : SE c d ce cap (.Name x p) (.glob x) := fun A env σ bad s av r v e => by
  simp only [Q2] at e
  refine El ok v hx hd fun u m => ?_
  have dn := m av e
  have dn' : Den c s.heap bad av u := dn.carry ⟨fun b o _ q => v.ground b o q, fun b _ q => fun hb => q (v.badG b hb)⟩
  exact (PE.there (.refl ..) v.fsb dn')
theorem SE.bin {l r : Expr} {a b : ME} {op : BOp} (p : Pos) (ok : c.Ok) (ha : SE c d ce false l a) (hb : SE c d ce false r b) : SE c d ce cap (.BinOp l (opOf op) r p) (.bin op a b) := fun A env σ bad s av rm v e => by
  replace e := i2 e
  obtain ⟨x, y, qa, qb, e⟩ := e
  refine wpAny_BinOp (wpAny_mono (ha A env σ bad s x rm v qa) (fun u s₁ h₁ => ?_) fun _ _ q => q)
  refine wpAny_mono (hb A env σ bad s₁ y rm (v.kpS h₁.1) qb) (fun w s₂ h₂ => ?_) fun _ _ q => q
  have v₂ := (v.kpS h₁.1).kpS h₂.1
  exact wpAny_mono (binop_ok (v₂.at ok rm) e (h₁.2.1.kpS h₂.1 v.fsb) h₂.2.1 cap _) (fun z s₃ h₃ => PE.after (h₁.1.trans h₂.1) h₃) fun _ _ q => q
theorem SE.neg {x : Expr} {a : ME} (p : Pos) (ha : SE c d ce false x a) : SE c d ce cap (.UnaryOp .USub x p) (.neg a) := fun A env σ bad s av rm v e => by
  obtain ⟨i, qa, e⟩ := iI e
  obtain rfl := Option.some.inj e
  refine wpAny_UnaryOp (wpAny_mono (ha A env σ bad s _ rm v qa) (fun u s₁ h₁ => ?_) fun _ _ q => q)
  have dn := h₁.2.1.1
  simp only [DenT] at dn
  obtain ⟨t, rfl⟩ := dn
  exact P.neg_int (.int (h₁.1.trans (.tok ..)))
theorem SB.of {e : Expr} {m : ME} (ok : c.Ok) (h : SE c d ce false e m) (he : ∀ (env : Env) (whole : Sem Value), isTrue e env whole = (do let v ← whole; standAt e.pos; holding [v] (PySem.truthy v))) : SB c d ce e m := fun A env σ bad s b rm v q => by
  unfold Bc at q
  cases qa : Ae c.G c.F m σ with
  | none => rw [qa] at q; cases q
  | some x =>
    rw [qa] at q
    refine wpAny_isTrue_value (wpAny_mono (h A env σ bad s x rm v qa) (fun u s₁ h₁ => ?_) fun _ _ q => q) (he env _)
    exact Hd ((v.kpS h₁.1).at ok rm) q h₁.2.1 fun s' k => ⟨rfl, h₁.1.trans k⟩
theorem SE.not {x : Expr} {a : ME} (ok : c.Ok) (p : Pos) (ha : SE c d ce false x a) : SE c d ce cap (.UnaryOp .Not x p) (.not a) := fun A env σ bad s av rm v e => by
  replace e := i1 e
  obtain ⟨z, qa, e⟩ := e
  replace e := mS e
  · obtain ⟨b, e, rfl⟩ := e
    refine wpAny_UnaryOp (wpAny_mono (ha A env σ bad s _ rm v qa) (fun u s₁ h₁ => ?_) fun _ _ q => q)
    exact not_value (Hd ((v.kpS h₁.1).at ok rm) e h₁.2.1 fun s' k => .bool (h₁.1.trans k))
theorem SB.not {x : Expr} {a : ME} (p : Pos) (ha : SB c d ce x a) : SB c d ce (.UnaryOp .Not x p) (.not a) := fun A env σ bad s b rm v e => by
  obtain ⟨w, e, et⟩ := iD e
  obtain ⟨z, qa, e⟩ := i1 e
  obtain ⟨t, qb, rfl⟩ := mS e
  obtain rfl := Option.some.inj et
  refine wpAny_isTrue_Not (wpAny_mono (ha A env σ bad s _ rm v (by unfold Bc; rw [qa]; exact qb)) (fun u s₁ h₁ => ?_) fun _ _ q => q)
  obtain ⟨rfl, k⟩ := h₁
  exact ⟨by simp, k⟩
theorem SE.cmp {l r : Expr} {a b : ME} {op : COp} (ok : c.Ok) (p : Pos) (ha : SE c d ce false l a) (hb : SE c d ce false r b) (hm : behindInMarks (Gf op) r = false) (hn : (op = .isNone ∨ op = .isNotNone) → b = .lit .none) :
    SE c d ce cap (.Compare l [Gf op] [r] p) (.cmp op a b) := fun A env σ bad s av rm v e => by
  replace e := i2 e
  obtain ⟨x, y, qa, qb, e⟩ := e
  replace e := mS e
  obtain ⟨t, e, rfl⟩ := e
  refine wpAny_Compare1 (wpAny_mono (ha A env σ bad s x rm v qa) (fun u s₁ h₁ => ?_) fun _ _ q => q) hm
  refine wpAny_mono (hb A env σ bad s₁ y rm (v.kpS h₁.1) qb) (fun w s₂ h₂ => ?_) fun _ _ q => q
  have v₂ := (v.kpS h₁.1).kpS h₂.1
  refine cmpop_ok (v₂.at ok rm) e (h₁.2.1.kpS h₂.1 v.fsb) h₂.2.1 (fun q => ?_) (.bool (h₁.1.trans h₂.1))
  have := hn q; subst this
  simp only [K9] at qb; cases qb
  have := h₂.2.1.1; simpa only [DenT] using this
theorem SB.cmp {l r : Expr} {a b : ME} {op : COp} (ok : c.Ok) (p : Pos) (ha : SE c d ce false l a) (hb : SE c d ce false r b) (hm : behindInMarks (Gf op) r = false) (hn : (op = .isNone ∨ op = .isNotNone) → b = .lit .none) :
    SB c d ce (.Compare l [Gf op] [r] p) (.cmp op a b) := fun A env σ bad s bb rm v e => by
  obtain ⟨w, e, et⟩ := iD e
  obtain ⟨x, y, qa, qb, e⟩ := i2 e
  obtain ⟨t, qc, rfl⟩ := mS e
  obtain rfl := Option.some.inj et
  refine wpAny_isTrue_Compare1 (wpAny_mono (ha A env σ bad s x rm v qa) (fun u s₁ h₁ => ?_) fun _ _ q => q) hm
  refine wpAny_mono (hb A env σ bad s₁ y rm (v.kpS h₁.1) qb) (fun w s₂ h₂ => ?_) fun _ _ q => q
  have v₂ := (v.kpS h₁.1).kpS h₂.1
  refine cmpop_ok (v₂.at ok rm) qc (h₁.2.1.kpS h₂.1 v.fsb) h₂.2.1 (fun q => ?_) (wpAny_truthy_bool ⟨rfl, h₁.1.trans h₂.1⟩)
  have := hn q; subst this
  simp only [K9] at qb; cases qb
  have := h₂.2.1.1; simpa only [DenT] using this
theorem SE.and {x : Expr} {y : Expr} {rest : List Expr} {a b : ME} (ok : c.Ok) (p : Pos) (ha : SE c d ce cap x a) (hb : SE c d ce cap (.BoolOp .And (y :: rest) p) b) : SE c d ce cap (.BoolOp .And (x :: y :: rest) p) (.and a b) := fun A env σ bad s av rm v e => by
  replace e := i1 e
  obtain ⟨z, qa, e⟩ := e
  · refine BoolOp_and (wpAny_mono (ha A env σ bad s _ rm v qa) (fun u s₁ h₁ => ?_) fun _ _ q => q)
    rcases iB e with ⟨qt, e⟩ | ⟨qt, e⟩
    · refine Hd ((v.kpS h₁.1).at ok rm) qt h₁.2.1 fun s' k => ?_
      rw [if_pos rfl]
      exact wpAny_mono (hb A env σ bad s' _ rm ((v.kpS h₁.1).kpS k) e) (fun z s₃ h₃ => (PE.after (h₁.1.trans k) h₃).drop) fun _ _ q => q
    · cases e
      refine Hd ((v.kpS h₁.1).at ok rm) qt h₁.2.1 fun s' k => ?_
      rw [if_neg (by simp)]
      exact ⟨h₁.1.trans k, h₁.2.1.kpS k v.fsb, h₁.2.2.1, fun q => (by cases q)⟩
theorem SE.or {x : Expr} {y : Expr} {rest : List Expr} {a b : ME} (ok : c.Ok) (p : Pos) (ha : SE c d ce cap x a) (hb : SE c d ce cap (.BoolOp .Or (y :: rest) p) b) : SE c d ce cap (.BoolOp .Or (x :: y :: rest) p) (.or a b) := fun A env σ bad s av rm v e => by
  replace e := i1 e
  obtain ⟨z, qa, e⟩ := e
  · refine BoolOp_or (wpAny_mono (ha A env σ bad s _ rm v qa) (fun u s₁ h₁ => ?_) fun _ _ q => q)
    rcases iB e with ⟨qt, e⟩ | ⟨qt, e⟩
    · cases e
      refine Hd ((v.kpS h₁.1).at ok rm) qt h₁.2.1 fun s' k => ?_
      rw [if_pos rfl]
      exact ⟨h₁.1.trans k, h₁.2.1.kpS k v.fsb, h₁.2.2.1, fun q => (by cases q)⟩
    · refine Hd ((v.kpS h₁.1).at ok rm) qt h₁.2.1 fun s' k => ?_
      rw [if_neg (by simp)]
      exact wpAny_mono (hb A env σ bad s' _ rm ((v.kpS h₁.1).kpS k) e) (fun z s₃ h₃ => (PE.after (h₁.1.trans k) h₃).drop) fun _ _ q => q
theorem SE.bool1 {x : Expr} {a : ME} {op : BoolOp} (p : Pos) (ha : SE c d ce cap x a) : SE c d ce cap (.BoolOp op [x] p) a := fun A env σ bad s av rm v e => BoolOp_one (ha A env σ bad s av rm v e)
noncomputable def SAll (c : Cx) (d : Nat) (ce : CE) (op : BoolOp) (es : List Expr) (m : ME) : Prop :=
  ∀ (A : Around) (env : Env) (σ : St) (bad : Addr → Prop) (s : Shared) (b : Bool), Room A d → EVis c A ce env σ bad s.heap → Bc c.G c.F m σ = some b →
    wpAny (model c.prog c.w) A (allTrue op es env) (fun b' s' => b' = b ∧ KpS (Ac A) s s') (fun _ _ => False) s
theorem SAll.one {x : Expr} {a : ME} {op : BoolOp} (ha : SB c d ce x a) : SAll c d ce op [x] a := fun A env σ bad s b rm v e => by
  cases op
  · refine wpAny_allTrue_And_cons (wpAny_mono (ha A env σ bad s b rm v e) (fun u s₁ h₁ => ?_) fun _ _ q => q)
    obtain ⟨rfl, k⟩ := h₁
    cases u
    · rw [if_neg (by simp)]; exact ⟨rfl, k⟩
    · rw [if_pos rfl]; exact wpAny_allTrue_And_nil ⟨rfl, k⟩
  · refine wpAny_allTrue_Or_cons (wpAny_mono (ha A env σ bad s b rm v e) (fun u s₁ h₁ => ?_) fun _ _ q => q)
    obtain ⟨rfl, k⟩ := h₁
    cases u
    · rw [if_neg (by simp)]; exact wpAny_allTrue_Or_nil ⟨rfl, k⟩
    · rw [if_pos rfl]; exact ⟨rfl, k⟩
theorem SAll.and {x : Expr} {r : List Expr} {a b : ME} (ha : SB c d ce x a) (hb : SAll c d ce .And r b) : SAll c d ce .And (x :: r) (.and a b) := fun A env σ bad s bb rm v e => by
  unfold Bc at e
  simp only [Q6] at e
  cases qa : Ae c.G c.F a σ with
  | none => rw [qa] at e; cases e
  | some z =>
    rw [qa] at e
    dsimp only at e
    cases qt : Aa z with
    | none => rw [qt] at e; cases e
    | some t =>
      rw [qt] at e
      refine wpAny_allTrue_And_cons (wpAny_mono (ha A env σ bad s t rm v (by unfold Bc; rw [qa]; exact qt)) (fun u s₁ h₁ => ?_) fun _ _ q => q)
      obtain ⟨rfl, k⟩ := h₁
      cases u
      · rw [if_neg (by simp)]
        have : Aa z = some bb := e
        rw [qt] at this; cases this; exact ⟨rfl, k⟩
      · rw [if_pos rfl]
        exact wpAny_mono (hb A env σ bad s₁ bb rm (v.kpS k) e) (fun z s₃ h₃ => ⟨h₃.1, k.trans h₃.2⟩) fun _ _ q => q
theorem SAll.or {x : Expr} {r : List Expr} {a b : ME} (ha : SB c d ce x a) (hb : SAll c d ce .Or r b) : SAll c d ce .Or (x :: r) (.or a b) := fun A env σ bad s bb rm v e => by
  unfold Bc at e
  simp only [Q7] at e
  cases qa : Ae c.G c.F a σ with
  | none => rw [qa] at e; cases e
  | some z =>
    rw [qa] at e
    dsimp only at e
    cases qt : Aa z with
    | none => rw [qt] at e; cases e
    | some t =>
      rw [qt] at e
      refine wpAny_allTrue_Or_cons (wpAny_mono (ha A env σ bad s t rm v (by unfold Bc; rw [qa]; exact qt)) (fun u s₁ h₁ => ?_) fun _ _ q => q)
      obtain ⟨rfl, k⟩ := h₁
      cases u
      · rw [if_neg (by simp)]
        exact wpAny_mono (hb A env σ bad s₁ bb rm (v.kpS k) e) (fun z s₃ h₃ => ⟨h₃.1, k.trans h₃.2⟩) fun _ _ q => q
      · rw [if_pos rfl]
        have : Aa z = some bb := e
        rw [qt] at this; cases this; exact ⟨rfl, k⟩
theorem SB.bool {op : BoolOp} {es : List Expr} {m : ME} (p : Pos) (h : SAll c d ce op es m) : SB c d ce (.BoolOp op es p) m := fun A env σ bad s b rm v e => wpAny_isTrue_BoolOp (h A env σ bad s b rm v e)
noncomputable def SL (c : Cx) (d : Nat) (ce : CE) (es : List Expr) (m : ME) : Prop :=
  ∀ (A : Around) (env : Env) (σ : St) (bad : Addr → Prop) (s : Shared) (pos : Pos) (avs : List AV), Room A d → EVis c A ce env σ bad s.heap → Ae c.G c.F m σ = some (.tup avs) →
    wpAny (model c.prog c.w) A (spliced (backTo pos (starEach es env))) (fun vs s' => KpS (Ac A) s s' ∧ DenL c s'.heap bad avs vs) (fun _ _ => False) s
noncomputable def Ai : Expr → Bool
  | .Starred .. => false
  | _ => true
theorem Ao {e : Expr} {r : List Expr} {env : Env} (h : Ai e = true) : starEach (e :: r) env = (false, eval e env) :: starEach r env := by
  cases e <;> first | rfl | (cases h; done)
theorem SL.nil : SL c d ce [] .nil := fun A env σ bad s pos avs rm v e => by
  simp only [K7] at e; cases e
  exact wpAny_items_nil ⟨.refl .., by simp [DenL]⟩
theorem SL.cons {x : Expr} {r : List Expr} {a b : ME} (hx : Ai x = true) (ha : SE c d ce true x a) (hb : SL c d ce r b) : SL c d ce (x :: r) (.cons a b) := fun A env σ bad s pos avs rm v e => by
  obtain ⟨z, zs, qa, qb, e⟩ := iC e
  replace e := Option.some.inj e
  cases e
  refine wpAny_items_cons (wpAny_mono (ha A env σ bad s z rm v qa) (fun u s₁ h₁ => ?_) fun _ _ q => q) (Ao hx)
  refine wpAny_mono (hb A env σ bad s₁ pos zs rm (v.kpS h₁.1) qb) (fun us s₂ h₂ => ?_) fun _ _ q => q
  refine ⟨h₁.1.trans h₂.1, ?_⟩
  simp only [DenL]
  exact ⟨u, us, rfl, (h₁.2.1.den (h₁.2.2.1 rfl)).kp h₂.1.heap v.fsb, h₂.2⟩
theorem SE.list {es : List Expr} {m : ME} (p : Pos) (h : SL c d ce es m) : SE c d ce cap (.List es p) (.list m) := fun A env σ bad s av rm v e => by
  obtain ⟨zs, qa, e⟩ := iT e
  obtain ⟨hlen, rfl⟩ := iS e
  · refine wpAny_List (wpAny_mono (h A env σ bad s p zs rm v qa) (fun vs s₁ h₁ => ?_) fun _ _ q => q)
    have hl := h₁.2.length
    have hll := Ew
    refine ⟨by with_reducible exact (ZA ‹_› ‹_› ‹_›), PE.after h₁.1 ?_⟩
    have v₁ := v.kpS h₁.1
    exact .new kpush v.fsb v₁.badD (Ba _) (den_mkL (Bi ..) (h₁.2.push _) hlen)
theorem SE.tup {es : List Expr} {m : ME} (k : Nat) (p : Pos) (h : SL c d ce es m) : SE c d ce cap (.Tuple es k p) (.tup m) := fun A env σ bad s av rm v e => by
  obtain ⟨zs, qa, e⟩ := iT e
  obtain ⟨hlen, rfl⟩ := iS e
  · refine wpAny_Tuple (wpAny_mono (h A env σ bad s p zs rm v qa) (fun vs s₁ h₁ => ?_) fun _ _ q => q)
    have hl := h₁.2.length
    have hll := Ew
    refine ⟨by with_reducible exact (ZA ‹_› ‹_› ‹_›), PE.after h₁.1 ?_⟩
    have v₁ := v.kpS h₁.1
    refine .new kpush v.fsb v₁.badD (Ba _) ?_
    simp only [DenT]
    exact ⟨_, vs, rfl, isTuple_push .., hlen, h₁.2.push _⟩
end
end Mine
end
section
open PySem PyProof.Rows PySem.SeqAt
namespace Mine
set_option tactic.hygienic false
set_option autoImplicit false
section
variable {c : Cx} {d : Nat} {ce : CE} {cap : Bool}
theorem SE.idx {l r : Expr} {a b : ME} (ok : c.Ok) (p : Pos) (ha : SE c d ce false l a) (hb : SE c d ce false r b) : SE c d ce cap (.Subscript l r p) (.idx a b) := fun A env σ bad s av rm v e => by
  replace e := i2 e
  obtain ⟨x, y, qa, qb, e⟩ := e
  refine Subscript_ (wpAny_mono (ha A env σ bad s x rm v qa) (fun u s₁ h₁ => ?_) fun _ _ q => q)
  refine wpAny_mono (hb A env σ bad s₁ y rm (v.kpS h₁.1) qb) (fun w s₂ h₂ => ?_) fun _ _ q => q
  have v₂ := (v.kpS h₁.1).kpS h₂.1
  obtain ⟨T, hT⟩ := idx_ty e
  have dn := h₁.2.1.kpS h₂.1 v.fsb
  refine subTail dn.1 hT (wpAny_mono (getItem_ok (v₂.at ok rm) e dn h₂.2.1) (fun z s₃ h₃ => ?_) fun _ _ q => q)
  exact ((PE.after (h₁.1.trans h₂.1) h₃).uncap cap)
theorem push_slice {s : Shared} {l u st : Value} : (s.heap.push { cls := .type "slice", data := .fields #[l, u, st] }).IsSliceOf s.heap.objs.size l u st := Heap.IsSliceOf.new ..
theorem SE.sliceTo {l r : Expr} {a b : ME} (ok : c.Ok) (p p' : Pos) (ha : SE c d ce false l a) (hb : SE c d ce false r b) : SE c d ce cap (.Subscript l (.Slice none (some r) none p') p) (.sliceTo a b) := fun A env σ bad s av rm v e => by
  replace e := i2 e
  obtain ⟨x, y, qa, qb, e⟩ := e
  refine Subscript_ (wpAny_mono (ha A env σ bad s x rm v qa) (fun u s₁ h₁ => ?_) fun _ _ q => q)
  refine wpAny_Slice (wpAny_pure ?_)
  refine wpAny_mono (hb A env σ bad s₁ y rm (v.kpS h₁.1) qb) (fun w s₂ h₂ => wpAny_pure ?_) fun _ _ q => q
  have v₂ := (v.kpS h₁.1).kpS h₂.1
  obtain ⟨T, hT⟩ := take_ty e
  have kp : KpS (Ac A) s₂ { s₂ with heap := s₂.heap.push { cls := .type "slice", data := .fields #[.none, w, .none] } } := kpush
  have v₃ := v₂.kpS kp
  have dn := (h₁.2.1.kpS h₂.1 v.fsb).kpS kp v.fsb
  refine subTail dn.1 hT (wpAny_mono (sliceTo_ok (cap := cap) (fr := Ig c.fresh (.sliceTo a b)) (v₃.at ok rm) e dn (h₂.2.1.kpS kp v.fsb) push_slice) (fun z s₃ h₃ => ?_) fun _ _ q => q)
  exact PE.after ((h₁.1.trans h₂.1).trans kp) h₃
theorem SE.sliceFrom {l r : Expr} {a b : ME} (ok : c.Ok) (p p' : Pos) (ha : SE c d ce false l a) (hb : SE c d ce false r b) : SE c d ce cap (.Subscript l (.Slice (some r) none none p') p) (.sliceFrom a b) := fun A env σ bad s av rm v e => by
  replace e := i2 e
  obtain ⟨x, y, qa, qb, e⟩ := e
  refine Subscript_ (wpAny_mono (ha A env σ bad s x rm v qa) (fun u s₁ h₁ => ?_) fun _ _ q => q)
  refine wpAny_Slice ?_
  refine wpAny_mono (hb A env σ bad s₁ y rm (v.kpS h₁.1) qb) (fun w s₂ h₂ => wpAny_pure (wpAny_pure ?_)) fun _ _ q => q
  have v₂ := (v.kpS h₁.1).kpS h₂.1
  obtain ⟨T, hT⟩ := drop_ty e
  have kp : KpS (Ac A) s₂ { s₂ with heap := s₂.heap.push { cls := .type "slice", data := .fields #[w, .none, .none] } } := kpush
  have v₃ := v₂.kpS kp
  have dn := (h₁.2.1.kpS h₂.1 v.fsb).kpS kp v.fsb
  refine subTail dn.1 hT (wpAny_mono (sliceFrom_ok (cap := cap) (fr := Ig c.fresh (.sliceFrom a b)) (v₃.at ok rm) e dn (h₂.2.1.kpS kp v.fsb) push_slice) (fun z s₃ h₃ => ?_) fun _ _ q => q)
  exact PE.after ((h₁.1.trans h₂.1).trans kp) h₃
theorem size_big {c : Cx} (ok : c.Ok) {h : Heap} (g : ∀ b o, c.hG.get? b = some o → h.get? b = some o) : 3 < h.objs.size := by
  obtain ⟨mg, bm, ob, n, _⟩ := ok.seer.main
  obtain ⟨o, _, _, e, _⟩ := n
  exact Heap.lt_size (g _ _ e)
theorem wpAny_release {M : Model} {A : Around} {vs : List Value} {keep : List Value} {Q : Unit → Shared → Prop} {E : Value → Shared → Prop} {s : Shared} (h : Q () s) : wpAny M A (release vs keep) Q E s := fun Γ p hΓ => by
  rw [Sem.wp_release]; exact h
theorem SE.chain {l r₁ r₂ : Expr} {a b e' : ME} {o₁ o₂ : COp} (ok : c.Ok) (p : Pos) (ha : SE c d ce false l a) (hb : SE c d ce false r₁ b) (he : SE c d ce false r₂ e') (hm : lastMarks [Gf o₁, Gf o₂] [r₁, r₂] = false)
    (hn₁ : ¬ (o₁ = .isNone ∨ o₁ = .isNotNone)) (hn₂ : ¬ (o₂ = .isNone ∨ o₂ = .isNotNone)) :
    SB c d ce (.Compare l [Gf o₁, Gf o₂] [r₁, r₂] p) (.chain o₁ o₂ a b e') := fun A env σ bad s bb rm v e => by
  unfold Bc at e
  simp only [Q9] at e
  cases qa : Ae c.G c.F a σ with
  | none => rw [qa] at e; cases e
  | some x =>
    cases qb : Ae c.G c.F b σ with
    | none => rw [qa, qb] at e; cases e
    | some y =>
      rw [qa, qb] at e
      dsimp only at e
      refine isTrue_chain (wpAny_mono (ha A env σ bad s x rm v qa) (fun u s₁ h₁ => ?_) fun _ _ q => q) hm
      show wpAny _ A (testChain p u [Gf o₁, Gf o₂] [eval r₁ env, eval r₂ env]) _ _ s₁
      refine wpAny_bind (wpAny_holding (wpAny_mono (hb A env σ bad s₁ y rm (v.kpS h₁.1) qb) (fun w s₂ h₂ => ?_) fun _ _ q => q))
      have v₂ := (v.kpS h₁.1).kpS h₂.1
      refine wpAny_bind (wpAny_standAt (wpAny_bind (wpAny_holding ?_)))
      cases qc : Ad o₁ x y with
      | none => rw [qc] at e; cases e
      | some t =>
        rw [qc] at e
        refine cmpop_ok (v₂.at ok rm) qc (h₁.2.1.kpS h₂.1 v.fsb) h₂.2.1 (fun q => absurd q hn₁) ?_
        refine wpAny_bind (wpAny_release ?_)
        refine wpAny_bind (wpAny_holding (wpAny_truthy_bool ?_))
        cases t with
        | false =>
          simp [Aa] at e; subst e
          exact wpAny_pure ⟨rfl, h₁.1.trans h₂.1⟩
        | true =>
          dsimp only at e
          rw [if_pos rfl]
          cases qe : Ae c.G c.F e' σ with
          | none => rw [qe] at e; cases e
          | some z =>
            rw [qe] at e
            dsimp only at e
            cases qd : Ad o₂ y z with
            | none => rw [qd] at e; cases e
            | some t₂ =>
              rw [qd] at e
              simp [Aa] at e; subst e
              refine wpAny_bind (wpAny_holding (wpAny_mono (he A env σ bad s₂ z rm v₂ qe) (fun w' s₃ h₃ => ?_) fun _ _ q => q))
              refine wpAny_bind (wpAny_standAt (wpAny_bind (wpAny_operating ?_)))
              refine cmpop_ok ((v₂.kpS h₃.1).at ok rm) qd (h₂.2.1.kpS h₃.1 v.fsb) h₃.2.1 (fun q => absurd q hn₂) ?_
              exact wpAny_holding (wpAny_truthy_bool ⟨rfl, (h₁.1.trans h₂.1).trans h₃.1⟩)
theorem SE.f1b {f : F1} {id : String} {x : Str} {e : Expr} {a : ME} (ok : c.Ok) (p p' : Pos) (hd : (x == ("__debug__" : Str)) = false) (hg : ce.glob x = some (.bi id)) (hf : fval f = .builtin id) (hs : Ai e = true) (ha : SE c d ce false e a) :
    SE c d ce cap (.Call (.Name x p') [e] [] p) (.f1 f a) := fun A env σ bad s av rm v q => by
  replace q := i1 q
  obtain ⟨z, qa, q⟩ := q
  · refine Call_ (El ok v hg hd fun u m => ?_)
    simp only [Ge] at m; subst m
    refine PyProof.Rows.callWith_builtin1 (wpAny_items_cons (wpAny_mono (ha A env σ bad s z rm v qa) (fun u s₁ h₁ => wpAny_items_nil ?_) fun _ _ q => q) (Ao hs)) (Ao hs) rfl
    rw [← hf]
    exact wpAny_mono (f1_ok ((v.kpS h₁.1).at ok rm) q h₁.2.1) (fun z s₂ h₂ => PE.after h₁.1 h₂) fun _ _ q => q
theorem SE.f1t {f : F1} {id : String} {x : Str} {e : Expr} {a : ME} (ok : c.Ok) (p p' : Pos) (hd : (x == ("__debug__" : Str)) = false) (hg : ce.glob x = some (.ty id)) (hf : fval f = .type id) (hs : Ai e = true) (ha : SE c d ce false e a) :
    SE c d ce cap (.Call (.Name x p') [e] [] p) (.f1 f a) := fun A env σ bad s av rm v q => by
  replace q := i1 q
  obtain ⟨z, qa, q⟩ := q
  · refine Call_ (El ok v hg hd fun u m => ?_)
    simp only [Ge] at m; subst m
    refine Pv.callWith_type1 (wpAny_items_cons (wpAny_mono (ha A env σ bad s z rm v qa) (fun u s₁ h₁ => wpAny_items_nil ?_) fun _ _ q => q) (Ao hs)) (Ao hs) rfl
    rw [← hf]
    exact wpAny_mono (f1_ok ((v.kpS h₁.1).at ok rm) q h₁.2.1) (fun z s₂ h₂ => PE.after h₁.1 h₂) fun _ _ q => q
theorem call_def {f : Nat} {fr : Bool} {x : Str} {e : Expr} {es : List Expr} {a : ME} {A : Around} {env : Env} {σ : St} {bad : Addr → Prop} {s : Shared} {avs : List AV} {r : Res} (ok : c.Ok) (hF : ∀ f args r, c.F f args = some r → FnOk c d f args r) (p p' : Pos)
    (hd : (x == ("__debug__" : Str)) = false) (hg : ce.glob x = some (.fn f fr)) (hs : Ai e = true) (ha : SL c d ce (e :: es) a) (rm : Room A d) (v : EVis c A ce env σ bad s.heap) (qa : Ae c.G c.F a σ = some (.tup avs)) (qf : c.F f avs = some r) :
    wpAny (model c.prog c.w) A (eval (.Call (.Name x p') (e :: es) [] p) env) (ResPost c A bad (c.fresh f) s r) (fun ex s' => ∃ s₁, KpS (Ac A) s s₁ ∧ ResExc c A s₁ r ex s') s := by
  refine Call_ (El ok v hg hd fun u m => ?_)
  obtain ⟨rfl, o, fd, ho, hfd⟩ := m
  refine callWith_def (o := o) (fd := fd) hfd (wpAny_mono (ha A env σ bad s p avs rm v qa) (fun vs s₁ h₁ => ?_) fun _ _ q => q.elim) (Ao hs)
  have v₁ := v.kpS h₁.1
  refine ⟨v₁.ground _ _ ho, ?_⟩
  refine wpAny_mono (hF f avs r qf A s₁ vs bad rm v₁.fr v₁.ground v₁.badG v₁.badD v₁.fsb h₁.2) (fun z s₂ h₂ => ?_) fun ex s₂ h₂ => ⟨s₁, h₁.1, h₂⟩
  obtain ⟨y, rfl, h₂⟩ := h₂
  exact ⟨y, rfl, PE.after h₁.1 h₂⟩
theorem SE.call {f : Nat} {fr : Bool} {x : Str} {e : Expr} {es : List Expr} {a : ME} (ok : c.Ok) (hF : ∀ f args r, c.F f args = some r → FnOk c d f args r) (p p' : Pos) (hd : (x == ("__debug__" : Str)) = false) (hg : ce.glob x = some (.fn f fr)) (hs : Ai e = true)
    (ha : SL c d ce (e :: es) a) : SE c d ce cap (.Call (.Name x p') (e :: es) [] p) (.call f a) := fun A env σ bad s av rm v q => by
  obtain ⟨avs, qa, q⟩ := iT q
  obtain ⟨y, qf, q⟩ := iV q
  obtain rfl := Option.some.inj q
  · · refine wpAny_mono (call_def ok hF p p' hd hg hs ha rm v qa qf) (fun z s₁ h₁ => ?_) fun ex s' h => ?_
      · obtain ⟨y', e, h₁⟩ := h₁
        cases e
        exact h₁.uncap cap
      · obtain ⟨s₁, _, e, _⟩ := h; cases e
theorem typeName_is {x : AV} {v : Value} {s : Shared} {bad : Addr → Prop} {T : String} (d : DenT c s.heap bad x v) (h : Fw x = some T) : s.TypeIs v T := by
  cases x <;> simp only [Fw] at h <;> cases h <;> simp only [DenT] at d
  · subst d; rfl
  · subst d; rfl
  · obtain ⟨t, rfl⟩ := d; rfl
  · obtain ⟨_, t, rfl⟩ := d; rfl
  · obtain ⟨a, vs, rfl, hl, _⟩ := d; exact hl.typeIs
  · obtain ⟨a, vs, rfl, hl, _⟩ := d; exact hl.typeIs
  · obtain ⟨a, vs, rfl, hl, _⟩ := d; exact hl.typeIs
theorem typeName_nb {x : AV} {T : String} (h : Fw x = some T) : (Value.type T == Value.type "builtin_function_or_method") = false := by
  cases x <;> simp only [Fw] at h <;> cases h <;> decide
theorem type_beq (a b : String) : (Value.type a == Value.type b) = (a == b) := by
  by_cases h : a = b
  · subst h; simp
  · rw [beq_eq_false_iff_ne.mpr h, beq_eq_false_iff_ne.mpr (fun e => h (Value.type.inj e))]
theorem isType_val {x y : Str} {e : Expr} {a : ME} {t : String} (ok : c.Ok) (p p₁ p₂ p₃ : Pos) (hd : (x == ("__debug__" : Str)) = false) (hd' : (y == ("__debug__" : Str)) = false) (hg : ce.glob x = some (.ty "type")) (hg' : ce.glob y = some (.ty t)) (hs : Ai e = true)
    (ha : SE c d ce false e a) {A : Around} {env : Env} {σ : St} {bad : Addr → Prop} {s : Shared} {z : AV} {T : String} (rm : Room A d) (v : EVis c A ce env σ bad s.heap) (qa : Ae c.G c.F a σ = some z) (qT : Fw z = some T) {Q : Value → Shared → Prop}
    (h : ∀ s', KpS (Ac A) s s' → Q (.bool (T == t)) s') :
    wpAny (model c.prog c.w) A (eval (.Call (.Name x p₁) [e] [] p₂) env) (fun u s₁ => wpAny (model c.prog c.w) A (eval (.Name y p₃) env) (fun w s₂ => wpAny (model c.prog c.w) A (compareOp .Is u w) Q (fun _ _ => False) s₂) (fun _ _ => False) s₁) (fun _ _ => False) s := by
  refine Call_ (El ok v hg hd fun u m => ?_)
  simp only [Ge] at m; subst m
  refine Pv.callWith_type1 (wpAny_items_cons (wpAny_mono (ha A env σ bad s z rm v qa) (fun u s₁ h₁ => wpAny_items_nil ?_) fun _ _ q => q) (Ao hs)) (Ao hs) rfl
  refine call_type_of (typeName_is h₁.2.1.1 qT) (typeName_nb qT) ?_
  refine El ok (v.kpS h₁.1) hg' hd' fun u' m => ?_
  simp only [Ge] at m; subst m
  refine wpAny_is_plain rfl ?_
  rw [type_beq]
  exact h _ h₁.1
end
end Mine
end
section
open PySem PyProof.Rows PySem.SeqAt
namespace Mine
set_option tactic.hygienic false
set_option autoImplicit false
section
variable {c : Cx} {d : Nat} {ce : CE} {cap : Bool}
theorem SE.isType {x y : Str} {e : Expr} {a : ME} {t : String} (ok : c.Ok) (p p₁ p₂ p₃ : Pos) (hd : (x == ("__debug__" : Str)) = false) (hd' : (y == ("__debug__" : Str)) = false) (hg : ce.glob x = some (.ty "type")) (hg' : ce.glob y = some (.ty t)) (hs : Ai e = true)
    (ha : SE c d ce false e a) : SE c d ce cap (.Compare (.Call (.Name x p₁) [e] [] p₂) [.Is] [.Name y p₃] p) (.isType t a) := fun A env σ bad s av rm v q => by
  obtain ⟨z, qa, q⟩ := i1 q
  obtain ⟨T, qT, rfl⟩ := mS q
  · · exact wpAny_Compare1 (isType_val ok p p₁ p₂ p₃ hd hd' hg hg' hs ha rm v qa qT fun s' k => .bool k) rfl
theorem SB.isType {x y : Str} {e : Expr} {a : ME} {t : String} (ok : c.Ok) (p p₁ p₂ p₃ : Pos) (hd : (x == ("__debug__" : Str)) = false) (hd' : (y == ("__debug__" : Str)) = false) (hg : ce.glob x = some (.ty "type")) (hg' : ce.glob y = some (.ty t)) (hs : Ai e = true)
    (ha : SE c d ce false e a) : SB c d ce (.Compare (.Call (.Name x p₁) [e] [] p₂) [.Is] [.Name y p₃] p) (.isType t a) := fun A env σ bad s b rm v q => by
  obtain ⟨w, q, et⟩ := iD q
  obtain ⟨z, qa, q⟩ := i1 q
  obtain ⟨T, qT, rfl⟩ := mS q
  obtain rfl := Option.some.inj et
  exact wpAny_isTrue_Compare1 (isType_val ok p p₁ p₂ p₃ hd hd' hg hg' hs ha rm v qa qT fun s' k => wpAny_truthy_bool ⟨rfl, k⟩) rfl
theorem base_of {o : Expr} {name : Str} {env : Env} (h : Jb o = false) : attributeBase o name env (eval o env) = eval o env := by
  cases o <;> first | rfl | (cases h; done)
theorem joinop_str {x y z : AV} (e : joinop x y = some z) : ∃ l, x = .str l := by
  cases x <;> first | exact ⟨_, rfl⟩ | (simp [joinop] at e; done)
theorem SE.join {o a : Expr} {x y : ME} (ok : c.Ok) (p apos : Pos) (hl : (apos.endLine == p.line) = true) (hb : Jb o = false) (hs : Ai a = true) (ho : SE c d ce false o x) (ha : SE c d ce false a y) :
    SE c d ce cap (.Call (.Attribute o ("join" : Str) apos) [a] [] p) (.join x y) := fun A env σ bad s av rm v e => by
  replace e := i2 e
  obtain ⟨X, Y, qa, qb, e⟩ := e
  obtain ⟨l, rfl⟩ := joinop_str e
  refine wpAny_Call_method (T := "str") (id := "str.join") (base_of hb) (by rw [Ao hs]; rfl) hl F.plainAttrs_str F.slot_str_join F.type_str_join (wpAny_mono (ho A env σ bad s _ rm v qa) (fun u s₁ h₁ => ?_) fun _ _ q => q)
  have dn := h₁.2.1
  have dn' := dn.1
  simp only [DenT] at dn'
  obtain ⟨hx, t, rfl⟩ := dn'
  refine ⟨typeIs_str _ _ _, (by intro _ e; cases e), ?_⟩
  rw [Ao hs]
  refine Calls.callWith_builtin rfl (Calls.evalArgs_plain (Calls.spliced_cons (wpAny_mono (ha A env σ bad s₁ _ rm (v.kpS h₁.1) qb) (fun w s₂ h₂ => Calls.spliced_nil ?_) fun _ _ q => q)))
  have v₂ := (v.kpS h₁.1).kpS h₂.1
  exact wpAny_mono (join_ok (v₂.at ok rm) e (dn.kpS h₂.1 v.fsb) h₂.2.1) (fun z s₃ h₃ => PE.after (h₁.1.trans h₂.1) h₃) fun _ _ q => q
noncomputable def SI (c : Cx) (d : Nat) (ce : CE) (cap : Bool) (target : Expr) (e : Expr) (m : ME) : Prop :=
  ∀ (A : Around) (env : Env) (σ : St) (bad : Addr → Prop) (s : Shared) (src : AV) (ys : List AV), Room A d → EVis c A ce env σ bad s.heap → Ae c.G c.F m σ = some src → Et src = some ys →
    wpAny (model c.prog c.w) A (eval e env) (fun x s₁ => wpAny (model c.prog c.w) A (pyIter x) (fun it s₂ => ∃ s₀, KpS (Ac A) s s₀ ∧ Src c A target bad (Ac A) cap s₀ ys it s₂) (fun _ _ => False) s₁) (fun _ _ => False) s
theorem SI.of {target e : Expr} {m : ME} (ok : c.Ok) (h : SE c d ce cap e m) : SI c d ce cap target e m := fun A env σ bad s src ys rm v q hi => by
  refine wpAny_mono (h A env σ bad s src rm v q) (fun x s₁ h₁ => ?_) fun _ _ q => q
  exact wpAny_mono (src_ok ((v.kpS h₁.1).at ok rm) hi h₁.2.1 h₁.2.2.1) (fun it s₂ h₂ => ⟨s₁, h₁.1, h₂⟩) fun _ _ q => q
theorem fit {k : Int} (h : -2097153 ≤ k) (l : k ≤ 2097153) : Builtin.Range.rangeFitsLong k = true := by
  unfold Builtin.Range.rangeFitsLong
  rw [decide_eq_true (Int.le_trans (by decide) h), decide_eq_true (Int.lt_of_le_of_lt l (by decide))]; rfl
theorem small_down {x y : Int} (h : -(LIM : Int) ≤ x ∧ x ≤ LIM ∧ -(LIM : Int) ≤ y ∧ y ≤ LIM) : Builtin.Range.small x y (-1) = true := by
  obtain ⟨h1, h2, h3, h4⟩ := h
  have b1 : (-2097153 : Int) ≤ -(LIM : Int) := by decide
  have b2 : (LIM : Int) ≤ 2097153 := by decide
  have e : -2097153 ≤ Builtin.Range.rangeSize x y (-1) ∧ Builtin.Range.rangeSize x y (-1) ≤ 2097153 := by
    show -2097153 ≤ (if x > y then (x - y - 1) / 1 + 1 else 0) ∧ (if x > y then (x - y - 1) / 1 + 1 else 0) ≤ 2097153
    rw [Int.ediv_one, Int.sub_add_cancel]
    by_cases q : x > y
    · rw [if_pos q]
      exact ⟨Int.le_trans (by decide) (Int.le_of_lt (Int.sub_pos_of_lt q)), Int.le_trans (Int.sub_le_sub h2 h3) (by decide)⟩
    · rw [if_neg q]; decide
  unfold Builtin.Range.small
  rw [fit (Int.le_trans b1 h1) (Int.le_trans h2 b2), fit (Int.le_trans b1 h3) (Int.le_trans h4 b2), fit e.1 e.2, show Builtin.Range.rangeFitsLong (-1) = true from rfl, if_neg (by decide)]
  have e2 : y + (-1 + 1) = y := Int.add_zero y
  rw [e2, fit (Int.le_trans b1 h3) (Int.le_trans h4 b2), Bool.or_true]; rfl
theorem small_pm {x y z : Int} (hz : z = 1 ∨ z = -1) (h : -(LIM : Int) ≤ x ∧ x ≤ LIM ∧ -(LIM : Int) ≤ y ∧ y ≤ LIM) : Builtin.Range.small x y z = true := by
  have b1 : -(2 ^ 62) ≤ -(LIM : Int) := by decide
  have b2 : (LIM : Int) < 2 ^ 62 := by decide
  rcases hz with rfl | rfl
  · exact small_one (Int.le_trans b1 h.1) (Int.lt_of_le_of_lt h.2.1 b2) (Int.le_trans b1 h.2.2.1) (Int.lt_of_le_of_lt h.2.2.2 b2)
  · exact small_down h
theorem range_src {x y z : Int} {t u w : Tok} {A : Around} {env : Env} {σ : St} {bad : Addr → Prop} {s s₀ : Shared} {target : Expr} (ok : c.Ok) (rm : Room A d) (v : EVis c A ce env σ bad s.heap) (k : KpS (Ac A) s₀ s)
    (hz : z = 1 ∨ z = -1) (hb : -(LIM : Int) ≤ x ∧ x ≤ LIM ∧ -(LIM : Int) ≤ y ∧ y ≤ LIM) (tk : Nat) :
    wpAny (model c.prog c.w) A (pyIter (.ref s.heap.objs.size)) (fun it s₂ => ∃ s₁, KpS (Ac A) s₀ s₁ ∧ Src c A target bad (Ac A) cap s₁ ((Fy x y z).map .int) it s₂) (fun _ _ => False)
      { s with heap := s.heap.push { cls := .type "range", data := .fields #[.int x t, .int y u, .int z w] }, toks := tk } := by
  have k' : KpS (Ac A) s { s with heap := s.heap.push { cls := .type "range", data := .fields #[.int x t, .int y u, .int z w] }, toks := tk } := .mk _ _ _ (Kp.push _ _ _)
  have v' := v.kpS k'
  exact wpAny_mono (src_range (v'.at ok rm) (IsRange.new _ _ _ _ _ _ _) (small_pm hz hb)) (fun it s₂ h₂ => ⟨_, k.trans k', h₂⟩) fun _ _ q => q
theorem Ix {x y z : Int} {src : AV} {ys : List AV} (e : (if (z = 1 ∨ z = -1) ∧ -(LIM : Int) ≤ x ∧ x ≤ LIM ∧ -(LIM : Int) ≤ y ∧ y ≤ LIM then some (AV.ilist (Fy x y z)) else none) = some src) (hi : Et src = some ys) :
    (z = 1 ∨ z = -1) ∧ (-(LIM : Int) ≤ x ∧ x ≤ LIM ∧ -(LIM : Int) ≤ y ∧ y ≤ LIM) ∧ ys = (Fy x y z).map .int := by
  obtain ⟨h, rfl⟩ := iS e
  exact ⟨h.1, h.2, (Option.some.inj hi).symm⟩
theorem SI.range1 {target : Expr} {x : Str} {a : Expr} {m : ME} (ok : c.Ok) (p p' : Pos) (hd : (x == ("__debug__" : Str)) = false) (hg : ce.glob x = some (.ty "range")) (hs : Ai a = true) (ha : SE c d ce false a m) :
    SI c d ce cap target (.Call (.Name x p') [a] [] p) (.range (.lit (.int 0)) m (.lit (.int 1))) := fun A env σ bad s src ys rm v q hi => by
  obtain ⟨X, Y, Z, q1, q2, q3, q⟩ := iR q
  · cases q1; cases q3
    obtain ⟨hz, hb, rfl⟩ := Ix q hi
    refine Call_ (El ok v hg hd fun u mm => ?_)
    simp only [Ge] at mm; subst mm
    refine Pv.callWith_type1 (wpAny_items_cons (wpAny_mono (ha A env σ bad s _ rm v q2) (fun u s₁ h₁ => wpAny_items_nil ?_) fun _ _ q => q) (Ao hs)) (Ao hs) rfl
    have dn := h₁.2.1.1
    simp only [DenT] at dn
    obtain ⟨t, rfl⟩ := dn
    exact call_range_1 (range_src ok rm (v.kpS h₁.1) h₁.1 hz hb _)
theorem SI.range2 {target : Expr} {x : Str} {a b : Expr} {m n : ME} (ok : c.Ok) (p p' : Pos) (hd : (x == ("__debug__" : Str)) = false) (hg : ce.glob x = some (.ty "range")) (hs : Ai a = true) (hs' : Ai b = true) (ha : SE c d ce false a m) (hb : SE c d ce false b n) :
    SI c d ce cap target (.Call (.Name x p') [a, b] [] p) (.range m n (.lit (.int 1))) := fun A env σ bad s src ys rm v q hi => by
  obtain ⟨X, Y, Z, q1, q2, q3, q⟩ := iR q
  · cases q3
    obtain ⟨hz, hb', rfl⟩ := Ix q hi
    refine Call_ (El ok v hg hd fun u mm => ?_)
    simp only [Ge] at mm; subst mm
    refine Pv.callWith_type1 (wpAny_items_cons (wpAny_mono (ha A env σ bad s _ rm v q1) (fun u s₁ h₁ => wpAny_items_cons (wpAny_mono (hb A env σ bad s₁ _ rm (v.kpS h₁.1) q2) (fun u' s₂ h₂ => wpAny_items_nil ?_) fun _ _ q => q) (Ao hs')) fun _ _ q => q) (Ao hs)) (Ao hs) (by rw [Ao hs']; rfl)
    have dn := h₁.2.1.1
    have dn' := h₂.2.1.1
    simp only [DenT] at dn dn'
    obtain ⟨t, rfl⟩ := dn
    obtain ⟨t', rfl⟩ := dn'
    exact call_range_2 (range_src ok rm ((v.kpS h₁.1).kpS h₂.1) (h₁.1.trans h₂.1) hz hb' _)
theorem SI.range3 {target : Expr} {x : Str} {a b g : Expr} {m n k : ME} (ok : c.Ok) (p p' : Pos) (hd : (x == ("__debug__" : Str)) = false) (hg : ce.glob x = some (.ty "range")) (hs : Ai a = true) (hs' : Ai b = true) (hs'' : Ai g = true) (ha : SE c d ce false a m) (hb : SE c d ce false b n) (hgg : SE c d ce false g k) :
    SI c d ce cap target (.Call (.Name x p') [a, b, g] [] p) (.range m n k) := fun A env σ bad s src ys rm v q hi => by
  obtain ⟨X, Y, Z, q1, q2, q3, q⟩ := iR q
  · obtain ⟨hz, hb', rfl⟩ := Ix q hi
    refine Call_ (El ok v hg hd fun u mm => ?_)
    simp only [Ge] at mm; subst mm
    refine Pv.callWith_type1 (wpAny_items_cons (wpAny_mono (ha A env σ bad s _ rm v q1) (fun u s₁ h₁ => wpAny_items_cons (wpAny_mono (hb A env σ bad s₁ _ rm (v.kpS h₁.1) q2) (fun u' s₂ h₂ => wpAny_items_cons (wpAny_mono (hgg A env σ bad s₂ _ rm ((v.kpS h₁.1).kpS h₂.1) q3) (fun u'' s₃ h₃ => wpAny_items_nil ?_) fun _ _ q => q) (Ao hs'')) fun _ _ q => q) (Ao hs')) fun _ _ q => q) (Ao hs)) (Ao hs) (by rw [Ao hs', Ao hs'']; rfl)
    have dn := h₁.2.1.1
    have dn' := h₂.2.1.1
    have dn'' := h₃.2.1.1
    simp only [DenT] at dn dn' dn''
    obtain ⟨t, rfl⟩ := dn
    obtain ⟨t', rfl⟩ := dn'
    obtain ⟨t'', rfl⟩ := dn''
    have v₃ := ((v.kpS h₁.1).kpS h₂.1).kpS h₃.1
    refine call_range_3 (by lia) ?_ (.inr (v₃.at ok rm).pylong)
    exact range_src ok rm v₃ ((h₁.1.trans h₂.1).trans h₃.1) hz hb' _
end
end Mine
end
section
open PySem PyProof.Rows PySem.SeqAt
namespace Mine
set_option tactic.hygienic false
set_option autoImplicit false
section
variable {c : Cx} {A : Around} {bad : Addr → Prop} {fs : List Addr} {s : Shared} {elts : List Expr} {kk : Nat} {pos : Pos} {cap : Bool}
theorem drawsL {prog : Program} {w : World} (hh : A.handled = none) (it l : Addr) (hne : l ≠ it) (vs : List Value) : Draws prog w A.in1 it [it, l] vs.length (fun i v => vs[i]? = some v) (fun i h => h.IsListIter it l i ∧ h.IsList l vs.toArray) := by
  have e : (fun (i : Nat) (v : Value) => vs.toArray[i]? = some v) = fun i v => vs[i]? = some v := by funext i v; rw [List.getElem?_toArray]
  have := Draws.list (prog := prog) (w := w) (A := A.in1) hh it l hne vs.toArray
  rw [e] at this; exact this
theorem drawsT {prog : Program} {w : World} (hh : A.handled = none) (it l : Addr) (hne : l ≠ it) (vs : List Value) : Draws prog w A.in1 it [it, l] vs.length (fun i v => vs[i]? = some v) (fun i h => h.IsTupleIter it l i ∧ h.IsTuple l vs.toArray) := by
  have e : (fun (i : Nat) (v : Value) => vs.toArray[i]? = some v) = fun i v => vs[i]? = some v := by funext i v; rw [List.getElem?_toArray]
  have := drawsTuple (prog := prog) (w := w) (A := A.in1) hh it l hne vs.toArray
  rw [e] at this; exact this
theorem den_lst {y : AV} {ys : List AV} {u : Value} {h : Heap} (hy : Jq y = some ys) (dy : DenT c h bad y u) : ∃ l ws, u = .ref l ∧ h.IsList l (List.toArray ws) ∧ DenL c h bad ys ws := by
  cases y <;> first | exact (nS hy).elim | skip
  · obtain rfl := Option.some.inj hy
    simp only [DenT] at dy; obtain ⟨p, vs, rfl, hp, _, hd⟩ := dy
    exact ⟨p, vs, rfl, hp, hd.denL⟩
  · obtain rfl := Option.some.inj hy
    simp only [DenT] at dy; obtain ⟨p, vs, rfl, hp, _, hd⟩ := dy
    exact ⟨p, vs, rfl, hp, hd⟩
theorem src_zip {x y : AV} {xs ys : List AV} {u w : Value} (a : At c A bad fs s) (hx : seqOf x = some xs) (hy : Jq y = some ys) (dx : DenR c s.heap bad fs x u) (dy : DenR c s.heap bad fs y w)
    (b1 : cap = true → ∀ p, u = .ref p → ¬ bad p) (b2 : cap = true → ∀ p, w = .ref p → ¬ bad p) :
    wpAny (model c.prog c.w) A (call (.type "zip") [u, w]) (fun x s₁ => wpAny (model c.prog c.w) A (pyIter x) (Src c A (.Tuple elts kk pos) bad fs cap s (zipL xs ys)) (fun _ _ => False) s₁) (fun _ _ => False) s := by
  obtain ⟨l2, ws, rfl, hl2, hd2⟩ := den_lst hy dy.1
  have hh := a.room.handled
  have one : ∀ l1 vs, u = .ref l1 → s.heap.IsList l1 (List.toArray vs) → DenL c s.heap bad xs vs → wpAny (model c.prog c.w) A (call (.type "zip") [u, .ref l2]) (fun x s₁ => wpAny (model c.prog c.w) A (pyIter x) (Src c A (.Tuple elts kk pos) bad fs cap s (zipL xs ys)) (fun _ _ => False) s₁) (fun _ _ => False) s := fun l1 vs e hl1 hd1 => by
    subst e
    have n1 : s.heap.get? l1 ≠ none := by obtain ⟨o, ho, _⟩ := hl1; exact nn ho
    have lt1 : l1 < s.heap.objs.size := by obtain ⟨o, ho, _⟩ := hl1; exact Heap.lt_size ho
    exact call_zip_ll hl1 hl2 fun h' hz => src_zipG a n1 hl2 (drawsL hh _ l1 (Nat.ne_of_lt lt1) vs) (fun i h st => by obtain ⟨o, ho, _⟩ := st.2; exact nn ho) ⟨hz.z, hz.ti, hz.to, ⟨hz.i1, hl1.at fun o e => hz.keep _ o e⟩, hz.i2, hz.keep⟩ hd1 hd2 (dx.2 _ rfl) (dy.2 _ rfl) (fun q => b1 q _ rfl) fun q => b2 q _ rfl
  by_cases ht : ∃ zs, x = .tup zs
  · obtain ⟨zs, rfl⟩ := ht
    obtain rfl := Option.some.inj hx
    have dx1 := dx.1
    simp only [DenT] at dx1; obtain ⟨l1, vs, rfl, hl1, _, hd1⟩ := dx1
    have n1 : s.heap.get? l1 ≠ none := by obtain ⟨o, ho, _⟩ := hl1; exact nn ho
    have lt1 : l1 < s.heap.objs.size := by obtain ⟨o, ho, _⟩ := hl1; exact Heap.lt_size ho
    exact call_zip_tl hl1 hl2 fun h' hz => src_zipG a n1 hl2 (drawsT hh _ l1 (Nat.ne_of_lt lt1) vs) (fun i h st => by obtain ⟨o, ho, _⟩ := st.2; exact nn ho) ⟨hz.z, hz.ti, hz.to, ⟨hz.i1, hl1.at fun o e => hz.keep _ o e⟩, hz.i2, hz.keep⟩ hd1 hd2 (dx.2 _ rfl) (dy.2 _ rfl) (fun q => b1 q _ rfl) fun q => b2 q _ rfl
  · have hx' : Jq x = some xs := by cases x <;> first | exact (nS hx).elim | exact hx | exact absurd ⟨_, rfl⟩ ht
    obtain ⟨l1, vs, e, hl1, hd1⟩ := den_lst hx' dx.1
    exact one l1 vs e hl1 hd1
theorem src_enum {y : AV} {ys : List AV} {w : Value} (a : At c A bad fs s) (hy : Jq y = some ys) (dy : DenR c s.heap bad fs y w) (b2 : cap = true → ∀ p, w = .ref p → ¬ bad p) :
    wpAny (model c.prog c.w) A (call (.type "enumerate") [w]) (fun x s₁ => wpAny (model c.prog c.w) A (pyIter x) (Src c A (.Tuple elts kk pos) bad fs cap s (Hz 0 ys)) (fun _ _ => False) s₁) (fun _ _ => False) s := by
  obtain ⟨l, ws, rfl, hl, hd⟩ := den_lst hy dy.1
  have hh := a.room.handled
  have lt : l < s.heap.objs.size := by obtain ⟨o, ho, _⟩ := hl; exact Heap.lt_size ho
  refine call_enumerate_list hl fun h' he hit _ hk => wpAny_pyIter_enum he ?_
  have fresh : ∀ k, s.heap.get? (s.heap.objs.size + k) = none := fun k => by
    cases q : s.heap.get? (s.heap.objs.size + k) with
    | none => rfl
    | some o => exact absurd (Heap.lt_size q) (Nat.not_lt.mpr (Nat.le_add_right _ _))
  have nb : ∀ k, ¬ bad (s.heap.objs.size + k) := fun k q => a.badD _ q (fresh k)
  have W := WalksT.enumerate (prog := c.prog) (w := c.w) (A := A) hh (s.heap.objs.size + 1) s.heap.objs.size l (Nat.succ_ne_self _) (Nat.ne_of_lt (Nat.lt_succ_of_lt lt)) (Nat.ne_of_lt lt) ws.toArray
  have T := Je.ofWalksT (c := c) (elts := elts) (kk := kk) (pos := pos) W fun i h st b hb => by
    obtain ⟨⟨old, e⟩, i1, i2⟩ := st
    simp only [List.mem_cons, List.not_mem_nil, or_false] at hb
    rcases hb with rfl | rfl | rfl
    · exact nn e
    · obtain ⟨o, ho, _⟩ := i1; exact nn ho
    · obtain ⟨o, ho, _⟩ := i2; exact nn ho
  have hn : ws.toArray.size = (Hz 0 ys).length := by rw [enumL_len, List.size_toArray, hd.length]
  rw [hn] at T
  have all : ∀ b ∈ [s.heap.objs.size + 1, s.heap.objs.size, l], (∃ k, b = s.heap.objs.size + k) ∨ b = l := fun b hb => by
    simp only [List.mem_cons, List.not_mem_nil, or_false] at hb
    rcases hb with rfl | rfl | rfl
    · exact .inl ⟨1, rfl⟩
    · exact .inl ⟨0, rfl⟩
    · exact .inr rfl
  have st0 : (∃ old, IsEnum h' (s.heap.objs.size + 1) s.heap.objs.size ((0 : Nat) : Int) old) ∧ h'.IsListIter s.heap.objs.size l 0 ∧ h'.IsList l ws.toArray := ⟨⟨_, he⟩, hit, hl.at fun o e => hk _ o e⟩
  refine ⟨_, _, _, _, _, rfl, T, st0, ⟨h', s.toks, rfl, .of hk⟩, ?_, ?_, ?_, fun b hb => T.there 0 h' st0 b hb, ?_⟩
  · intro b hb
    simp only [List.mem_cons, List.not_mem_nil, or_false] at hb
    rcases hb with rfl | rfl
    · exact fresh 1
    · exact fresh 0
  · intro b hb
    rcases all b hb with ⟨k, rfl⟩ | rfl
    · exact fun q => nb k (a.fsb _ q)
    · exact dy.2 _ rfl
  · intro hc b hb
    rcases all b hb with ⟨k, rfl⟩ | rfl
    · exact nb k
    · exact b2 hc _ rfl
  · intro i v h'' bad' k hP
    obtain ⟨T, vals, rfl, ⟨t, x, px, rfl⟩, hT⟩ := hP
    obtain ⟨X, hX, dX⟩ := den_at (DenL.carry k _ _ hd) (show ws[i]? = some x by simpa using px)
    have := enumL_get (n := 0) hX
    rw [Nat.zero_add] at this
    exact ⟨_, this, den_pair ⟨by simp [DenT], fun _ e => by cases e⟩ dX hT, fun q => by cases q⟩
end
section
variable {c : Cx} {d : Nat} {ce : CE} {cap : Bool}
theorem zip_inv {x y z : AV} (e : zipop x y = some z) : ∃ xs ys, seqOf x = some xs ∧ Jq y = some ys ∧ z = .list (zipL xs ys) := by
  unfold zipop at e
  cases hx : seqOf x with
  | none => rw [hx] at e; exact (nS e).elim
  | some xs => cases hy : Jq y with
    | none => rw [hx, hy] at e; exact (nS e).elim
    | some ys => rw [hx, hy] at e; exact ⟨xs, ys, rfl, rfl, (Option.some.inj e).symm⟩
theorem enum_inv {y z : AV} (e : enumop y = some z) : ∃ ys, Jq y = some ys ∧ z = .list (Hz 0 ys) := by
  unfold enumop at e
  cases hy : Jq y with
  | none => rw [hy] at e; exact (nS e).elim
  | some ys => rw [hy] at e; exact ⟨ys, rfl, (Option.some.inj e).symm⟩
theorem SI.zip {elts : List Expr} {kk : Nat} {pos : Pos} {x : Str} {a b : Expr} {m n : ME} (ok : c.Ok) (p p' : Pos) (hg : ce.glob x = some (.ty "zip")) (hs : Ai a = true) (hs' : Ai b = true) (ha : SE c d ce cap a m) (hb : SE c d ce cap b n) :
    SI c d ce cap (.Tuple elts kk pos) (.Call (.Name x p') [a, b] [] p) (.zip m n) := fun A env σ bad s src ys rm v q hi => by
  obtain ⟨X, Y, q1, q2, q⟩ := i2 q
  obtain ⟨xs, zs, hx, hy, rfl⟩ := zip_inv q
  obtain rfl := Option.some.inj hi
  refine Call_ (El ok v hg (Bf hg) fun u mm => ?_)
  simp only [Ge] at mm; subst mm
  refine Pv.callWith_type1 (wpAny_items_cons (wpAny_mono (ha A env σ bad s _ rm v q1) (fun u s₁ h₁ => wpAny_items_cons (wpAny_mono (hb A env σ bad s₁ _ rm (v.kpS h₁.1) q2) (fun w s₂ h₂ => wpAny_items_nil ?_) fun _ _ q => q) (Ao hs')) fun _ _ q => q) (Ao hs)) (Ao hs) (by rw [Ao hs']; rfl)
  have v₂ := (v.kpS h₁.1).kpS h₂.1
  exact wpAny_mono (src_zip (v₂.at ok rm) hx hy (h₁.2.1.kpS h₂.1 v.fsb) h₂.2.1 h₁.2.2.1 h₂.2.2.1) (fun x s₃ h₃ => wpAny_mono h₃ (fun it s₄ h₄ => ⟨s₂, h₁.1.trans h₂.1, h₄⟩) fun _ _ q => q) fun _ _ q => q
theorem SI.enum {elts : List Expr} {kk : Nat} {pos : Pos} {x : Str} {a : Expr} {m : ME} (ok : c.Ok) (p p' : Pos) (hg : ce.glob x = some (.ty "enumerate")) (hs : Ai a = true) (ha : SE c d ce cap a m) :
    SI c d ce cap (.Tuple elts kk pos) (.Call (.Name x p') [a] [] p) (.enum m) := fun A env σ bad s src ys rm v q hi => by
  obtain ⟨X, q1, q⟩ := i1 q
  obtain ⟨xs, hx, rfl⟩ := enum_inv q
  obtain rfl := Option.some.inj hi
  refine Call_ (El ok v hg (Bf hg) fun u mm => ?_)
  simp only [Ge] at mm; subst mm
  refine Pv.callWith_type1 (wpAny_items_cons (wpAny_mono (ha A env σ bad s _ rm v q1) (fun u s₁ h₁ => wpAny_items_nil ?_) fun _ _ q => q) (Ao hs)) (Ao hs) rfl
  exact wpAny_mono (src_enum ((v.kpS h₁.1).at ok rm) hx h₁.2.1 h₁.2.2.1) (fun x s₃ h₃ => wpAny_mono h₃ (fun it s₄ h₄ => ⟨s₁, h₁.1, h₄⟩) fun _ _ q => q) fun _ _ q => q
set_option tactic.hygienic true in
theorem m2_ok {mx : Bool} {x y z : AV} {u w : Value} {A : Around} {bad : Addr → Prop} {fs : List Addr} {s : Shared} {fr : Bool} (a : At c A bad fs s) (e : m2op mx x y = some z) (dx : DenR c s.heap bad fs x u) (dy : DenR c s.heap bad fs y w) :
    wpAny (model c.prog c.w) A (call (.builtin (if mx then "max" else "min")) [u, w]) (PE c fs bad cap fr s z) (fun _ _ => False) s := by
  replace dx := dx.1
  replace dy := dy.1
  cases x <;> first | exact (nS e).elim | (cases y <;> first | exact (nS e).elim | skip)
  obtain rfl := Option.some.inj e
  simp only [DenT] at dx dy
  obtain ⟨t, rfl⟩ := dx
  obtain ⟨t', rfl⟩ := dy
  rename_i i j
  cases mx
  · refine min_two_ints a.room.handled fun h' tk hk => ?_
    by_cases q : j < i
    · rw [if_pos q, if_neg Bool.false_ne_true, if_pos q]; exact .int (.mk _ _ _ (.of hk))
    · rw [if_neg q, if_neg Bool.false_ne_true, if_neg q]; exact .int (.mk _ _ _ (.of hk))
  · refine max_two_ints a.room.handled fun h' tk hk => ?_
    by_cases q : j > i
    · rw [if_pos q, if_pos rfl, if_pos q]; exact .int (.mk _ _ _ (.of hk))
    · rw [if_neg q, if_pos rfl, if_neg q]; exact .int (.mk _ _ _ (.of hk))
theorem SE.m2 {mx : Bool} {x : Str} {a b : Expr} {m n : ME} (ok : c.Ok) (p p' : Pos) (hg : ce.glob x = some (.bi (if mx then "max" else "min"))) (hs : Ai a = true) (hs' : Ai b = true) (ha : SE c d ce false a m) (hb : SE c d ce false b n) :
    SE c d ce cap (.Call (.Name x p') [a, b] [] p) (.m2 mx m n) := fun A env σ bad s av rm v q => by
  obtain ⟨X, Y, q1, q2, q⟩ := i2 q
  refine Call_ (El ok v hg (Bf hg) fun u mm => ?_)
  simp only [Ge] at mm; subst mm
  refine PyProof.Rows.callWith_builtin1 (wpAny_items_cons (wpAny_mono (ha A env σ bad s _ rm v q1) (fun u s₁ h₁ => wpAny_items_cons (wpAny_mono (hb A env σ bad s₁ _ rm (v.kpS h₁.1) q2) (fun w s₂ h₂ => wpAny_items_nil ?_) fun _ _ q => q) (Ao hs')) fun _ _ q => q) (Ao hs)) (Ao hs) (by rw [Ao hs']; rfl)
  have v₂ := (v.kpS h₁.1).kpS h₂.1
  exact wpAny_mono (m2_ok (v₂.at ok rm) q (h₁.2.1.kpS h₂.1 v.fsb) h₂.2.1) (fun z s₃ h₃ => PE.after (h₁.1.trans h₂.1) h₃) fun _ _ q => q
theorem ints_are : ∀ {xs : List Int} {vs : List Value}, DenI xs vs → IntsAre vs xs
  | [], _, h => by simp only [DenI] at h; subst h; exact .nil
  | x :: r, _, h => by
    simp only [DenI] at h
    obtain ⟨t, w, rfl, hr⟩ := h
    exact .cons x t (ints_are hr)
theorem SE.pl {es : List Expr} {m : ME} (p : Pos) (h : SL c d ce es m) : SE c d ce cap (.List es p) (.pl m) := fun A env σ bad s av rm v e => by
  obtain ⟨zs, qa, e⟩ := iT e
  by_cases hlen : zs.length ≤ LIM
  · rw [if_pos hlen] at e
    obtain ⟨is, hi, rfl⟩ := mS e
    refine wpAny_List (wpAny_mono (h A env σ bad s p zs rm v qa) (fun vs s₁ h₁ => ?_) fun _ _ q => q)
    have hl := h₁.2.length
    have hll := Ew
    refine ⟨by with_reducible exact (ZA ‹_› ‹_› ‹_›), PE.after h₁.1 ?_⟩
    have v₁ := v.kpS h₁.1
    refine .new kpush v.fsb v₁.badD (Ba _) ?_
    simp only [DenT]
    exact ⟨_, vs, rfl, ⟨Bi .., ⟨_, Heap.get?_push_size _ rfl, rfl⟩⟩, by rw [Hr hi]; exact hlen, DenI.of_denL hi h₁.2⟩
  · rw [if_neg hlen] at e; exact (nS e).elim
theorem SE.count {o a : Expr} {x y : ME} (ok : c.Ok) (p apos : Pos) (hl : (apos.endLine == p.line) = true) (hb : Jb o = false) (hs : Ai a = true) (ho : SE c d ce false o x) (ha : SE c d ce false a y) :
    SE c d ce cap (.Call (.Attribute o ("count" : Str) apos) [a] [] p) (.count x y) := fun A env σ bad s av rm v e => by
  replace e := i2 e
  obtain ⟨X, Y, qa, qb, e⟩ := e
  cases X <;> first | exact (nS e).elim | (cases Y <;> first | exact (nS e).elim | skip)
  obtain rfl := Option.some.inj e
  refine wpAny_Call_method (T := "list") (id := "list.count") (base_of hb) (by rw [Ao hs]; rfl) hl F.plainAttrs_list F.slot_list_count F.type_list_count (wpAny_mono (ho A env σ bad s _ rm v qa) (fun u s₁ h₁ => ?_) fun _ _ q => q)
  have dn := h₁.2.1
  have dn' := dn.1
  simp only [DenT] at dn'
  obtain ⟨l, vs, rfl, ⟨hli, nd⟩, _, hd⟩ := dn'
  refine ⟨hli.typeIs, fun b e => by cases e; exact nd, ?_⟩
  rw [Ao hs]
  refine Calls.callWith_builtin rfl (Calls.evalArgs_plain (Calls.spliced_cons (wpAny_mono (ha A env σ bad s₁ _ rm (v.kpS h₁.1) qb) (fun w s₂ h₂ => Calls.spliced_nil ?_) fun _ _ q => q)))
  have d1 := (dn.kpS h₂.1 v.fsb).1
  have d2 := h₂.2.1.1
  simp only [DenT] at d1 d2
  obtain ⟨l', vs', e', ⟨hli', _⟩, _, hd'⟩ := d1
  cases e'
  obtain ⟨t, rfl⟩ := d2
  exact count_list_ints hli' (ints_are hd') (.int ((h₁.1.trans h₂.1).trans (.tok ..)))
end
end Mine
end
section
open PySem PyProof.Rows PySem.SeqAt
namespace Mine
set_option tactic.hygienic false
set_option autoImplicit false
noncomputable def clOf (env : Env) : List (Str × NameKind) → List (Str × Addr) → List (Str × Addr)
  | [], cs => cs
  | (n, k) :: r, cs => clOf env r (if k == .free then (n, (env.cells.lookup n).getD 0) :: cs else cs)
theorem closure_is {scope : Scope} {env : Env} (h : ∀ p ∈ scope.names, p.2 = .free → ∃ a, env.cells.lookup p.1 = some a) : closureFor scope env = pure (clOf env scope.names []) := by
  unfold closureFor
  have key : ∀ (l : List (Str × NameKind)) (cs : List (Str × Addr)), (∀ p ∈ l, p.2 = .free → ∃ a, env.cells.lookup p.1 = some a) →
      (forIn l cs (fun (x : Str × NameKind) (r : List (Str × Addr)) => (if (x.2 == NameKind.free) = true then (do let y ← cellOf env x.1; pure (ForInStep.yield ((x.1, y) :: r))) else (pure (ForInStep.yield r) : Sem (ForInStep (List (Str × Addr)))))) : Sem _) = pure (clOf env l cs) := by
    intro l
    induction l with
    | nil => intro cs _; rfl
    | cons p r ih =>
      intro cs hp
      obtain ⟨n, k⟩ := p
      rw [List.forIn_cons]
      cases hk : (k == NameKind.free) with
      | true =>
        obtain ⟨a, ha⟩ := hp (n, k) List.mem_cons_self (by simpa using hk)
        have e : cellOf env n = pure a := by unfold cellOf; simp only at ha; rw [ha]
        simp only [hk, if_true, e, pure_bind, clOf, ha, Option.getD_some]
        exact ih _ fun q hq => hp q (List.mem_cons_of_mem _ hq)
      | false =>
        simp only [hk, Bool.false_eq_true, if_false, pure_bind, clOf]
        exact ih _ fun q hq => hp q (List.mem_cons_of_mem _ hq)
  have := key scope.names [] h
  simp only [bind_pure] at this ⊢
  exact this
theorem clOf_good {env : Env} : ∀ (l : List (Str × NameKind)) (cs : List (Str × Addr)), (∀ p ∈ l, p.2 = .free → ∃ a, env.cells.lookup p.1 = some a) → (∀ q ∈ cs, env.cells.lookup q.1 = some q.2) →
    (∀ q ∈ clOf env l cs, env.cells.lookup q.1 = some q.2) ∧ (∀ q ∈ cs, q ∈ clOf env l cs) ∧ ∀ p ∈ l, p.2 = .free → ∃ a, (p.1, a) ∈ clOf env l cs
  | [], cs, _, hc => ⟨hc, fun _ h => h, fun _ h => by cases h⟩
  | (n, k) :: r, cs, hl, hc => by
    simp only [clOf]
    cases hk : (k == NameKind.free) with
    | true =>
      obtain ⟨a, ha⟩ := hl (n, k) List.mem_cons_self (by simpa using hk)
      simp only at ha
      have ih := clOf_good r ((n, a) :: cs) (fun q hq => hl q (List.mem_cons_of_mem _ hq)) (by
        intro q hq
        rcases List.mem_cons.mp hq with rfl | hq
        · exact ha
        · exact hc q hq)
      simp only [if_true, ha, Option.getD_some]
      refine ⟨ih.1, fun q hq => ih.2.1 q (List.mem_cons_of_mem _ hq), fun p hp hf => ?_⟩
      rcases List.mem_cons.mp hp with rfl | hp
      · exact ⟨a, ih.2.1 _ List.mem_cons_self⟩
      · exact ih.2.2 p hp hf
    | false =>
      have ih := clOf_good r cs (fun q hq => hl q (List.mem_cons_of_mem _ hq)) hc
      simp only [Bool.false_eq_true, if_false]
      refine ⟨ih.1, ih.2.1, fun p hp hf => ?_⟩
      rcases List.mem_cons.mp hp with rfl | hp
      · simp only at hf; subst hf; cases hk
      · exact ih.2.2 p hp hf
set_option tactic.hygienic true in
theorem Bm {β : Type} : ∀ {l : List (Str × β)} {x : Str} {b : β}, l.lookup x = some b → (x, b) ∈ l
  | [], x, b, h => by simp at h
  | (k, v) :: r, x, b, h => by
    rw [List.lookup_cons] at h
    split at h
    · rename_i q; cases h; have : x = k := by simpa using q
      subst this; exact List.mem_cons_self
    · exact List.mem_cons_of_mem _ (Bm h)
set_option tactic.hygienic true in
theorem Hq {β : Type} : ∀ {l : List (Str × β)} {x : Str} {b : β}, (x, b) ∈ l → ∃ b', l.lookup x = some b'
  | [], x, b, h => by cases h
  | (k, v) :: r, x, b, h => by
    rw [List.lookup_cons]
    split
    · exact ⟨_, rfl⟩
    · rename_i q
      rcases List.mem_cons.mp h with h | h
      · cases h; simp at q
      · exact Hq h
theorem clOf_lookup {env : Env} {names : List (Str × NameKind)} {x : Str} (hl : ∀ p ∈ names, p.2 = .free → ∃ a, env.cells.lookup p.1 = some a) (h : names.lookup x = some .free) : (clOf env names []).lookup x = env.cells.lookup x := by
  obtain ⟨h1, _, h3⟩ := clOf_good names [] hl (by simp)
  obtain ⟨a, ha⟩ := h3 _ (Bm h) rfl
  obtain ⟨b, hb⟩ := Hq ha
  rw [hb, ← h1 _ (Bm hb)]
theorem Ja {env : Env} {x : Str} : ∀ (names : List (Str × NameKind)),
    (names.map fun (n, k) => if (k == NameKind.free && env.scope.kind == .function && env.kindOf n == some .cell) then (n, NameKind.cell) else (n, k)).lookup x = (names.lookup x).map fun k => if (k == NameKind.free && env.scope.kind == .function && env.kindOf x == some .cell) then NameKind.cell else k
  | [] => rfl
  | (n, k) :: r => by
    have ih := @Ja env x r
    show List.lookup x ((if (k == NameKind.free && env.scope.kind == .function && env.kindOf n == some .cell) = true then (n, NameKind.cell) else (n, k)) :: _) = _
    cases hx : x == n with
    | true =>
      have : x = n := by simpa using hx
      subst this
      by_cases hc : (k == NameKind.free && env.scope.kind == .function && env.kindOf x == some .cell) = true
      · rw [if_pos hc]; simp only [List.lookup_cons, beq_self_eq_true, Option.map_some]; rw [if_pos hc]
      · rw [if_neg hc]; simp only [List.lookup_cons, beq_self_eq_true, Option.map_some]; rw [if_neg hc]
    | false =>
      by_cases hc : (k == NameKind.free && env.scope.kind == .function && env.kindOf n == some .cell) = true
      · rw [if_pos hc]; simp only [List.lookup_cons, hx]; exact ih
      · rw [if_neg hc]; simp only [List.lookup_cons, hx]; exact ih
noncomputable def Hj (M : Model) (A : Around) (env : Env) (E : Value → Shared → Prop) : List Str → List Value → (Shared → Prop) → Shared → Prop
  | x :: xs, v :: vs, Q, s => wpAny M A (storeName env x v) (fun _ s' => Hj M A env E xs vs Q s') E s
  | _, _, Q, s => Q s
theorem Ia {env : Env} : ∀ {es : List Expr} {xs : List Str}, mapO nameOf es = some xs → (assignEach es env).length = xs.length ∧ (assignEach es env).findIdx? (·.1) = none
  | [], xs, h => by obtain rfl := Option.some.inj h; exact ⟨rfl, rfl⟩
  | e :: r, xs, h => by
    obtain ⟨y, ys, h1, h2, rfl⟩ := mo_c h
    cases e <;> simp only [nameOf] at h1 <;> first | (cases h1; done) | skip
    have ih := @Ia env r ys h2
    exact ⟨congrArg (· + 1) ih.1, by show List.findIdx? _ ((false, _) :: assignEach r env) = none; rw [List.findIdx?_cons, ih.2]; rfl⟩
theorem assign_order {M : Model} {A : Around} {env : Env} {E : Value → Shared → Prop} : ∀ {es : List Expr} {xs : List Str} {vs : List Value} {Q : Shared → Prop} {s : Shared}, mapO nameOf es = some xs → Hj M A env E xs vs Q s →
    wpAny M A (assignInOrder ((assignEach es env).map (·.2)) vs) (fun _ s' => Q s') E s
  | [], xs, vs, Q, s, h, q => by
    obtain rfl := Option.some.inj h
    cases vs <;> exact wpAny_pure q
  | e :: r, xs, vs, Q, s, h, q => by
    obtain ⟨y, ys, h1, h2, rfl⟩ := mo_c h
    cases e <;> simp only [nameOf] at h1 <;> first | (cases h1; done) | skip
    cases h1
    cases vs with
    | nil => exact wpAny_pure q
    | cons v vs =>
      show wpAny M A (assignInOrder (assign _ env :: (assignEach r env).map (·.2)) (v :: vs)) _ E s
      exact wpAny_bind (wpAny_holding (wpAny_assign_Name (wpAny_mono q (fun _ s' h' => assign_order h2 h') fun _ _ e => e)))
theorem Iz {α β : Type} {f : α → Option β} : ∀ {l : List α} {r : List β}, mapO f l = some r → r.length = l.length
  | [], r, h => by obtain rfl := Option.some.inj h; rfl
  | a :: l, r, h => by
    obtain ⟨_, _, _, h2, rfl⟩ := mo_c h
    simp [Iz h2]
set_option tactic.hygienic true in
theorem tgt_ok {c : Cx} {A : Around} {h : Heap} {bad : Addr → Prop} {target : Expr} {xs : List Str} {y : AV} {v : Value} {vs : List AV} (ht : Bh target = some xs) (hb : Gb xs.length y = some vs) (hd : DenT c h bad y v) (hn : isName target = true → ∀ a, v = .ref a → ¬ bad a) (hh : A.handled = none) :
    ∃ ws, DenL c h bad vs ws ∧ ws.length = xs.length ∧ ∀ (env : Env) (E : Value → Shared → Prop) (s : Shared) (Q : Shared → Prop), s.heap = h → (∀ h', (∀ b o, h.get? b = some o → h'.get? b = some o) → Hj (model c.prog c.w) A env E xs ws Q { s with heap := h' }) →
      wpAny (model c.prog c.w) A (assign target env v) (fun _ s' => Q s') E s := by
  cases target <;> simp only [Bh] at ht <;> first | (cases ht; done) | skip
  · cases ht
    simp only [Gb, List.length_cons, List.length_nil, if_true] at hb
    cases hb
    refine ⟨[v], by simp only [DenL]; exact ⟨v, [], rfl, ⟨hd, hn rfl⟩, rfl⟩, rfl, fun env E s Q e q => ?_⟩
    have := q h fun _ _ e => e
    subst e
    exact wpAny_assign_Name this
  · rename_i es k p
    split at ht
    · cases ht
    · rename_i hlen
      have hl := Iz ht
      unfold Gb at hb
      rw [if_neg (by lia)] at hb
      split at hb
      · rename_i zs
        split at hb <;> cases hb
        rename_i hz
        simp only [DenT] at hd
        obtain ⟨t, ws, rfl, htup, hs, hd⟩ := hd
        refine ⟨ws, hd, by rw [hd.length, hz], fun env E s Q e q => ?_⟩
        subst e
        obtain ⟨h1, h2⟩ := @Ia env _ _ ht
        refine wpAny_assign_Tuple hh htup (by rw [h1, List.size_toArray, hd.length, hz]) h2 fun h' hx => ?_
        refine assign_order ht ?_
        refine q h' fun b o e => hx b o (Nat.ne_of_lt (Heap.lt_size e)) e
      · cases hb
noncomputable def Iq (m : Str → Option Value) : List Str → List Value → Str → Option Value
  | x :: xs, v :: vs => Iq (fun y => if y = x then some v else m y) xs vs
  | _, _ => m
theorem updAll_other : ∀ {xs : List Str} {vs : List Value} {m : Str → Option Value} {y : Str}, y ∉ xs → Iq m xs vs y = m y
  | [], vs, m, y, _ => rfl
  | x :: xs, [], m, y, _ => rfl
  | x :: xs, v :: vs, m, y, h => by
    show Iq _ xs vs y = _
    rw [updAll_other (fun q => h (List.mem_cons_of_mem _ q))]
    rw [if_neg (fun q => h (by rw [q]; exact List.mem_cons_self))]
theorem updAll_get : ∀ {xs : List Str} {vs : List Value} {m : Str → Option Value} {i : Nat} {x : Str}, xs.Nodup → vs.length = xs.length → xs[i]? = some x → Iq m xs vs x = vs[i]?
  | [], vs, m, i, x, _, _, h => by simp at h
  | y :: xs, [], m, i, x, _, h, _ => by simp at h
  | y :: xs, v :: vs, m, i, x, hn, hl, h => by
    show Iq _ xs vs x = _
    cases i with
    | zero =>
      simp at h; subst h
      rw [updAll_other (List.nodup_cons.mp hn).1]; simp
    | succ i =>
      simp at h
      rw [updAll_get (List.nodup_cons.mp hn).2 (by simpa using hl) h]; simp
theorem Iu {M : Model} {A : Around} {env : Env} {E : Value → Shared → Prop} (hp : (env.scope.kind == .class || (env.scope.kind == .module && env.locals != env.globals)) = false) :
    ∀ {xs : List Str} {vs : List Value} {m : Str → Option Value} {s : Shared} {Q : Shared → Prop}, (∀ x ∈ xs, env.kindOf x = some .local) → s.heap.Ns env.locals m →
    (∀ h' tk, h'.Ns env.locals (Iq m xs vs) → (∀ b o, b ≠ env.locals → s.heap.get? b = some o → h'.get? b = some o) → Q { s with heap := h', toks := tk }) → Hj M A env E xs vs Q s
  | [], vs, m, s, Q, _, hn, q => q s.heap s.toks hn fun _ _ _ e => e
  | x :: xs, [], m, s, Q, _, hn, q => q s.heap s.toks hn fun _ _ _ e => e
  | x :: xs, v :: vs, m, s, Q, hx, hn, q => by
    show wpAny M A (storeName env x v) (fun _ s' => Hj M A env E xs vs Q s') E s
    refine wpAny_storeName_local (hx x List.mem_cons_self) hn (fun h' hn' hs => ?_) hp
    refine Iu hp (fun y hy => hx y (List.mem_cons_of_mem _ hy)) hn' fun h'' tk hn'' hk => ?_
    exact q h'' tk hn'' fun b o hb e => hk b o hb (hs.extBut b o hb e)
theorem compLoop_go {prog : Program} {w : World} {A : Around} {R : Result → Shared → Prop} {s : Shared} {elt target iter : Expr} {ifs : List Expr} {scope : Scope} {pos : Pos} {it acc : Value} {env : Env} (I : Nat → Shared → Prop)
    (turn : ∀ n s, I n s → wpAny (model prog w) A (pyNext it) (fun r s₁ => match r with
      | none => R (.ok .next) s₁
      | some v => wpAny (model prog w) A (letOwnedTupleGo target it v) (fun _ s₀ => wpAny (model prog w) A (assign target env v) (fun _ s₂ =>
          wpAny (model prog w) A (forIn ifs true fun c r => if r = true then do let ok ← isTrue c env (eval c env); pure (ForInStep.yield ok) else pure (ForInStep.yield r)) (fun ok s₃ =>
            if ok = true then wpAny (model prog w) A (eval elt env) (fun x s₄ => wpAny (model prog w) A (call (.builtin "list.append") [acc, x]) (fun _ s₅ => ∃ m, m < n ∧ I m s₅) (fun _ _ => False) s₄) (fun _ _ => False) s₃
            else ∃ m, m < n ∧ I m s₃) (fun _ _ => False) s₂) (fun _ _ => False) s₀) (fun _ _ => False) s₁) (fun _ _ => False) s)
    (n : Nat) (h : I n s) : codeAny (model prog w) A (.compLoop (.ListComp elt [⟨target, iter, ifs, 0⟩] scope pos) 0 it acc env) R s := by
  refine codeAny_loop rfl I (fun n s hI => ?_) n h
  show wpAny _ A ((compTurn (.ListComp elt [⟨target, iter, ifs, 0⟩] scope pos) 0 it acc env).onRaise (fun x => do noteFrame x env; theTreesLotGoes x)) _ _ s
  refine wpAny_noted ?_
  rw [compTurn_list]
  refine wpAny_bind (wpAny_standAt (wpAny_bind (wpAny_mono (turn n s hI) (fun r s₁ h₁ => ?_) fun _ _ h' => h'.elim)))
  cases r with
  | none => exact wpAny_pure h₁
  | some v =>
    refine wpAny_bind (wpAny_mono h₁ (fun _ s₀ h₀ => wpAny_bind (wpAny_mono h₀ (fun _ s₂ h₂ => wpAny_bind (wpAny_mono h₂ (fun ok s₃ h₃ => ?_) fun _ _ h' => h'.elim)) fun _ _ h' => h'.elim)) fun _ _ h' => h'.elim)
    cases ok with
    | false => exact wpAny_pure ⟨rfl, h₃⟩
    | true =>
      exact wpAny_bind (wpAny_bind (wpAny_mono h₃ (fun x s₄ h₄ => wpAny_bind (wpAny_mono h₄ (fun _ s₅ h₅ => wpAny_pure (wpAny_pure ⟨rfl, h₅⟩)) fun _ _ h' => h'.elim)) fun _ _ h' => h'.elim))
end Mine
end
section
open PySem PyProof.Rows PySem.SeqAt
namespace Mine
set_option tactic.hygienic false
set_option autoImplicit false
noncomputable def Bd (ce : CE) (scope : Scope) (xs : List Str) : CE :=
  { scope := scope, vm := (xs.zipIdx ce.n) ++ ce.vm.filter (fun p => scope.names.lookup p.1 == some .free), n := ce.n + xs.length, gt := ce.gt }
structure ScOk (outer scope : Scope) (xs : List Str) : Prop where
  kind : scope.kind = .function
  kinds : ∀ p ∈ scope.names, p.2 = .local ∨ p.2 = .free ∨ p.2 = .globalImplicit
  self : ∀ p ∈ scope.names, scope.names.lookup p.1 = some p.2
  free : ∀ p ∈ scope.names, p.2 = .free → outer.names.lookup p.1 = some .cell
  loc : ∀ x ∈ xs, scope.names.lookup x = some .local
  nodup : xs.Nodup
theorem ScOk.of {outer scope : Scope} {xs : List Str} (h : Eo outer scope xs = true) : ScOk outer scope xs := by
  unfold Eo at h
  simp only [Bool.and_eq_true, List.all_eq_true, Bool.or_eq_true, beq_iff_eq, bne_iff_ne, decide_eq_true_eq] at h
  obtain ⟨⟨⟨⟨⟨h1, h2⟩, h3⟩, h4⟩, h5⟩, h6⟩ := h
  refine ⟨by simpa using h1, fun p hp => ?_, fun p hp => by simpa using h3 p hp, fun p hp hf => ?_, fun x hx => by simpa using h5 x hx, h6⟩
  · rcases h2 p hp with (h | h) | h
    · exact .inl h
    · exact .inr (.inl h)
    · exact .inr (.inr h)
  · rcases h4 p hp with h | h
    · exact absurd hf h
    · simpa using h
set_option tactic.hygienic true in
theorem Bn : ∀ {xs : List Str} {n i : Nat} {x : Str}, (xs.zipIdx n).lookup x = some i → n ≤ i ∧ xs[i - n]? = some x
  | [], n, i, x, h => by simp at h
  | y :: r, n, i, x, h => by
    rw [List.zipIdx_cons, List.lookup_cons] at h
    split at h
    · rename_i q; cases h; have : x = y := by simpa using q
      subst this; simp
    · obtain ⟨h1, h2⟩ := Bn h
      refine ⟨by exact Nat.le_of_succ_le ‹_›, ?_⟩
      rw [show i - n = (i - (n + 1)) + 1 by lia]; simpa using h2
set_option tactic.hygienic true in
theorem Gm {p : Str → Bool} {x : Str} : ∀ {l : List (Str × Nat)} {i : Nat}, (l.filter fun q => p q.1).lookup x = some i → p x = true ∧ l.lookup x = some i
  | [], i, h => by simp at h
  | (y, j) :: r, i, h => by
    rw [List.filter_cons] at h
    split at h
    · rename_i hp
      rw [List.lookup_cons] at h ⊢
      split at h
      · rename_i q; cases h; have : x = y := by simpa using q
        subst this; exact ⟨hp, rfl⟩
      · exact Gm h
    · rename_i hp
      have := Gm h
      rw [List.lookup_cons]
      split
      · rename_i q; have e : x = y := by simpa using q
        subst e; exact absurd this.1 hp
      · exact this
section
variable {c : Cx} {d : Nat} {ce : CE} {A : Around} {env : Env} {σ : St} {bad : Addr → Prop}
theorem comp_vis {h₁ h : Heap} {scope : Scope} {xs : List Str} {C : Addr} {bad' : Addr → Prop} {vs : List AV} {ws : List Value} {m : Str → Option Value}
    (v : EVis c A ce env σ bad h₁) (sc : ScOk ce.scope scope xs) (k : Kp (Ac A) h₁ h) (hb : ∀ b, bad b → bad' b) (hbn : ∀ b, bad' b → h₁.get? b ≠ none → bad b) (hbd : ∀ b, bad' b → h.get? b ≠ none) (hG : ∀ b, bad' b → c.hG.get? b = none)
    (hn : h.Ns C m) (hm : ∀ (i : Nat) (x : Str), xs[i]? = some x → m x = ws[i]?) (hd : DenL c h bad' vs ws) (hlen : vs.length = xs.length) :
    EVis c A (Bd ce scope xs) (compEnvC scope (clOf env scope.names []) C env) (σ ++ vs.map fun x => some (false, x)) bad' h := by
  have hfree : ∀ p ∈ scope.names, p.2 = .free → ∃ a, env.cells.lookup p.1 = some a := fun p hp hf => (v.ck _ (sc.free p hp hf)).2
  have cy : Ex h₁ h bad bad' := ⟨fun b o hb' e => (k b o e).1 fun q => hb' (v.fsb b q), fun b hb' e q => hb' (hbn b q e)⟩
  have kl : ∀ x kd, scope.names.lookup x = some kd → (compEnvC scope (clOf env scope.names []) C env).kindOf x = some (if (kd == NameKind.free && env.scope.kind == .function && env.kindOf x == some .cell) then NameKind.cell else kd) := fun x kd e => by
    show (relabel scope env).names.lookup x = _
    unfold relabel
    rw [Ja, e]; rfl
  exact {
    kind := sc.kind
    globs := v.globs
    blts := v.blts
    gk := fun x e => by rw [kl x _ e]; rfl
    ck := fun x e => by
      have := sc.kinds _ (Bm e)
      simp at this
    ground := fun b o e => (k b o (v.ground b o e)).1 fun q => by first | exact (nN (v.badG b (v.fsb b q)) e).elim | (rw [v.badG b (v.fsb b q)] at e; cases e)
    badG := hG
    badD := hbd
    fsb := fun b q => hb b (v.fsb b q)
    fr := v.fr.kp k
    n := by simp [Bd, v.n, hlen]
    gt := v.gt
    vb := fun x i e => by
      simp only [Bd, List.lookup_append] at e ⊢
      cases q : (xs.zipIdx ce.n).lookup x with
      | some j =>
        rw [q] at e; simp at e; subst e
        obtain ⟨h1, h2⟩ := Bn q
        have := (List.getElem?_eq_some_iff.mp h2).1
        lia
      | none =>
        rw [q] at e; simp at e
        have := v.vb x i (Gm (p := fun n => scope.names.lookup n == some NameKind.free) e).2
        lia
    var := fun x i own av e1 e2 => by
      simp only [Bd, List.lookup_append] at e1
      cases q : (xs.zipIdx ce.n).lookup x with
      | some j =>
        rw [q] at e1; simp at e1; subst e1
        obtain ⟨h1, h2⟩ := Bn q
        have hj := (List.getElem?_eq_some_iff.mp h2).1
        rw [List.getElem?_append_right (by rw [← v.n]; exact h1), ← v.n, List.getElem?_map] at e2
        cases q2 : vs[j - ce.n]? with
        | none => rw [q2] at e2; cases e2
        | some z =>
          rw [q2] at e2; cases e2
          obtain ⟨u, hu, du⟩ := hd.get q2
          have hx := sc.loc x (List.mem_of_getElem? h2)
          refine ⟨u, .inl ⟨by rw [kl x _ hx]; rfl, m, hn, by rw [hm _ _ h2, hu]⟩, du.r fun b q => hb b (v.fsb b q), fun _ => du.2⟩
      | none =>
        rw [q] at e1; simp at e1
        obtain ⟨f1, f2⟩ := Gm (p := fun n => scope.names.lookup n == some NameKind.free) e1
        have f1 : scope.names.lookup x = some .free := by simpa using f1
        have hi := v.vb x i f2
        rw [List.getElem?_append_left (by rw [← v.n]; exact hi)] at e2
        obtain ⟨u, l, dn, nb⟩ := v.var x i own av f2 e2
        have hcell := (v.ck x (sc.free _ (Bm f1) rfl)).1
        have top : ∀ a, u = .ref a → h₁.get? a ≠ none := fun a e => by subst e; exact DenT.there av a dn.1
        refine ⟨u, ?_, ⟨DenT.carryTop cy av u dn.1 fun a o e q => (k a o q).1 (dn.2 a e), dn.2⟩, fun ho a e q => nb ho a e (hbn a q (top a e))⟩
        rcases l with ⟨e, _⟩ | ⟨e, a, ea, ic⟩
        · rw [hcell] at e; cases e
        · refine .inr ⟨?_, a, ?_, k.isCell ic⟩
          · rw [kl x _ f1, hcell, v.kind]; rfl
          · show (clOf env scope.names []).lookup x = some a
            rw [clOf_lookup hfree f1, ea] }
noncomputable def ST (c : Cx) (d : Nat) (ce : CE) (ifs : List Expr) (m : ME) : Prop :=
  ∀ (A : Around) (env : Env) (σ : St) (bad : Addr → Prop) (s : Shared) (b : Bool), Room A d → EVis c A ce env σ bad s.heap → Bc c.G c.F m σ = some b →
    wpAny (model c.prog c.w) A (forIn ifs true fun c r => if r = true then do let ok ← isTrue c env (eval c env); pure (ForInStep.yield ok) else pure (ForInStep.yield r)) (fun b' s' => b' = b ∧ KpS (Ac A) s s') (fun _ _ => False) s
theorem ST.nil : ST c d ce [] (.lit (.bool true)) := fun A env σ bad s b rm v e => by
  simp [Bc, K9, Aa] at e; subst e
  exact wpAny_tests_nil ⟨rfl, .refl ..⟩
theorem ST.one {t : Expr} {m : ME} (h : SB c d ce t m) : ST c d ce [t] m := fun A env σ bad s b rm v e => wpAny_tests_one (h A env σ bad s b rm v e)
theorem Je.use {target : Expr} {I : Addr} {fp wr : List Addr} {n : Nat} {D : Nat → Value → Heap → Prop} {St' : Nat → Heap → Prop} (T : Je c A target I fp wr n D St') {i : Nat} {s : Shared} {G : Option Value → Shared → Prop} {Q : Value → Shared → Prop} {E : Value → Shared → Prop}
    (hi : i < n) (st : St' i s.heap) (hG : ∀ v s₁, wpAny (model c.prog c.w) A (letOwnedTupleGo target (.ref I) v) (fun _ s₂ => Q v s₂) E s₁ → G (some v) s₁)
    (hQ : ∀ v h' tk, D i v h' → St' (i + 1) h' → (∀ b o, b ∉ wr → s.heap.get? b = some o → h'.get? b = some o) → Q v { s with heap := h', toks := tk }) : wpAny (model c.prog c.w) A (pyNext (.ref I)) G E s := by
  refine wpAny_mono (T.turn i s Q E hi st hQ) (fun r s₁ h₁ => ?_) fun _ _ e => e
  obtain ⟨v, rfl, h⟩ := h₁
  exact hG v s₁ h
inductive CompI (c : Cx) (A : Around) (s₁ : Shared) (D C : Addr) (bad' : Addr → Prop) (fp : List Addr) (St' : Nat → Heap → Prop) (ys zs : List AV) (go : List AV → Option (List AV)) (k : Nat) (s' : Shared) : Prop where
  | mk (h' : Heap) (tk : Nat) (m' : Str → Option Value) (us : List Value) (zs₁ zs₂ : List AV) (i : Nat) (e : s' = { s₁ with heap := h', toks := tk }) (hi : i ≤ ys.length) (hk : k = ys.length + 1 - i) (st : St' i h') (hl : h'.IsList D us.toArray) (hn : h'.Ns C m') (kp : Kp (Ac A) s₁.heap h') (hbd : ∀ b, bad' b → h'.get? b ≠ none)
    (hfp : ∀ b ∈ fp, h'.get? b ≠ none) (hden : DenL c h' bad' zs₁ us) (hz : zs₁.length ≤ i) (hzs : zs = zs₁ ++ zs₂) (hgo : go (ys.drop i) = some zs₂)
theorem comp_core {elt target iter : Expr} {ifs : List Expr} {scope : Scope} {pos : Pos} {xs : List Str} {me mt : ME} {s₁ s₂ : Shared} {it : Value} {ys zs : List AV} {cap : Bool} {E : Value → Shared → Prop} {RR : Value → Addr → Result → Shared → Prop}
    (ok : c.Ok) (rm : Room A d) (v : EVis c A ce env σ bad s₁.heap) (ht : Bh target = some xs) (sc : ScOk ce.scope scope xs) (he : SE c d (Bd ce scope xs) true elt me) (hT : ST c d (Bd ce scope xs) ifs mt)
    (src : Src c A target bad (Ac A) cap s₁ ys it s₂) (hl : ys.length ≤ LIM) (hgo0 : Ey (fun σ' => (Ae c.G c.F mt σ').bind Aa) (Ae c.G c.F me) xs.length σ ys = some zs)
    (hRR : ∀ D C h' tk m', s₁.heap.get? D = none → s₁.heap.get? C = none → D ≠ C → h'.Ns C m' → Kp (Ac A) s₁.heap h' → DenT c h' (fun b => bad b ∨ b = C) (mkL zs) (.ref D) → RR (.ref D) C (.ok .next) { s₁ with heap := h', toks := tk }) :
    wpAny (model c.prog c.w) A (newList []) (fun acc s₃ => wpAny (model c.prog c.w) A (newFunctionEnv scope env.globals (clOf env scope.names []) [] env.qual none .none (some env)) (fun cenv s₄ =>
      codeAny (model c.prog c.w) A (.compStart (.ListComp elt [⟨target, iter, ifs, 0⟩] scope pos) 0 it acc { cenv with scope := relabel scope env }) (RR acc cenv.locals) s₄) E s₃) E s₂ := by
  obtain ⟨I, fp, wr, D0, St', rfl, T, hst, ksrc, hwr, hfpfs, hfpb, hfpd, hD⟩ := src
  have hcellk : ∀ x ∈ scope.names, x.2 ≠ .cell := fun x hx e => by
    rcases sc.kinds x hx with h | h | h <;> rw [h] at e <;> cases e
  refine wpAny_newObj_type (wpAny_newFunctionEnv hcellk (by intro y hy; simp at hy) (fun h₁ hns₁ hsb₁ => ?_) sc.kind)
  dsimp only at hns₁ hsb₁ ⊢
  generalize hH2 : s₂.heap.push { cls := .type "list", dict := none, data := .seq ([] : List Value).toArray } = H2 at hns₁ hsb₁ ⊢
  have hC : H2.objs.size = s₂.heap.objs.size + 1 := by rw [← hH2, Heap.size_push]
  obtain ⟨D, hDa⟩ : ∃ D, s₂.heap.objs.size = D := ⟨_, rfl⟩
  obtain ⟨C, hCa⟩ : ∃ C, H2.objs.size = C := ⟨_, rfl⟩
  rw [hDa] at hC
  rw [hCa] at hC
  have hDC : D ≠ C := by rw [hC]; exact Nat.ne_of_lt (Nat.lt_succ_self _)
  have below : ∀ b, s₂.heap.get? b ≠ none → b ≠ C ∧ b ≠ D := fun b hb => by
    cases q : s₂.heap.get? b with
    | none => exact absurd q hb
    | some o =>
      have := Heap.lt_size q; rw [hDa] at this
      exact ⟨by rw [hC]; exact Nat.ne_of_lt (Nat.lt_succ_of_lt this), Nat.ne_of_lt this⟩
  have old : ∀ b o, s₂.heap.get? b = some o → h₁.get? b = some o := fun b o e => hsb₁.extBut b o (by rw [hCa]; exact (below b (by first | exact nn (e) | (rw [e]; simp))).1) (Heap.get?_push_of_some _ (hH2 ▸ Heap.get?_push_of_some _ e))
  have k12 := ksrc.heap
  have hD1 : s₁.heap.get? D = none := k12.dom (by rw [← hDa]; exact Ba _)
  have hC1 : s₁.heap.get? C = none := k12.dom (Heap.get?_none_of_le (by rw [hDa, hC]; exact Nat.le_succ _))
  have hlist0 : h₁.IsList D ([] : List Value).toArray := by
    have : H2.IsList D ([] : List Value).toArray := by rw [← hH2, ← hDa]; exact Bi ..
    exact this.at fun o e => hsb₁.extBut D o (by rw [hCa]; exact hDC) (Heap.get?_push_of_some _ e)
  have kp₁ : Kp (Ac A) s₁.heap h₁ := k12.trans (.of old)
  obtain ⟨h₂', tk₂, e₂, _⟩ := ksrc
  -- the bad ones within
  let bad' : Addr → Prop := fun b => bad b ∨ b = C ∨ b = D ∨ b ∈ wr
  have hb : ∀ b, bad b → bad' b := fun b h => .inl h
  have hbn : ∀ b, bad' b → s₁.heap.get? b ≠ none → bad b := fun b h e => by
    rcases h with h | rfl | rfl | h
    · exact h
    · exact absurd hC1 e
    · exact absurd hD1 e
    · exact absurd (hwr b h) e
  have hG : ∀ b, bad' b → c.hG.get? b = none := fun b h => by
    cases q : c.hG.get? b with
    | none => rfl
    | some o => rw [← q]; exact v.badG b (hbn b h (by first | exact nn (v.ground b o q) | (rw [v.ground b o q]; simp)))
  have loop : codeAny (model c.prog c.w) A (.compLoop (.ListComp elt [⟨target, iter, ifs, 0⟩] scope pos) 0 (.ref I) (.ref D) (compEnvC scope (clOf env scope.names []) C env)) (RR (.ref D) C)
      { s₂ with heap := h₁, toks := s₂.toks + ([] : List (Str × Value)).length } := by
    refine compLoop_go (CompI c A s₁ D C bad' fp St' ys zs (Ey (fun σ' => (Ae c.G c.F mt σ').bind Aa) (Ae c.G c.F me) xs.length σ)) ?_ (ys.length + 1) ?_
    · rintro k s' ⟨h', tk, m', us, zs₁, zs₂, i, rfl, hi, rfl, st, hlist, hns, kp, hbd, hfpd', hden, hz, rfl, hgo⟩
      have hll := Ew
      by_cases hlt : i < ys.length
      · -- a turn
        refine T.use hlt st (fun _ _ h => h) fun val h₂ tk₂ hDv st₂ hk₂ => ?_
        have hwrfs : ∀ b ∈ wr, b ∉ Ac A := fun b hb' q => hfpfs b (T.sub b hb') q
        have kp₂ : Kp (Ac A) s₁.heap h₂ := fun b o e => by
          have hnw : b ∉ wr := fun q => by first | exact (nN (hwr b q) e).elim | (rw [hwr b q] at e; cases e)
          obtain ⟨h4, sl, h5⟩ := kp b o e
          exact ⟨fun hb' => hk₂ b o hnw (h4 hb'), sl, hk₂ b _ hnw h5⟩
        have cy : Ex s₁.heap h₂ bad bad' := ⟨fun b o hb' e => (kp₂ b o e).1 fun q => hb' (v.fsb b q), fun b hb' e q => hb' (hbn b q e)⟩
        obtain ⟨y, hy, dy, ny⟩ := hD i val h₂ bad' cy hDv
        have hdrop : ys.drop i = y :: ys.drop (i + 1) := by
          rw [List.drop_eq_getElem_cons hlt]
          congr 1
          rw [List.getElem?_eq_getElem hlt] at hy; exact Option.some.inj hy
        rw [hdrop] at hgo
        simp only [Ey] at hgo
        cases qb : Gb xs.length y with
        | none => rw [qb] at hgo; cases hgo
        | some vs =>
          rw [qb] at hgo
          dsimp only at hgo
          obtain ⟨ws, hws, hwl, hasg⟩ := tgt_ok (A := A) ht qb dy ny rm.handled
          have hvl : vs.length = xs.length := by rw [← hwl, hws.length]
          have hCwr : C ∉ wr := fun q => (below C (hfpd C (T.sub C q))).1 rfl
          have hDwr : D ∉ wr := fun q => (below D (hfpd D (T.sub D q))).2 rfl
          have hCfp : C ∉ fp := fun q => (below C (hfpd C q)).1 rfl
          have hDfp : D ∉ fp := fun q => (below D (hfpd D q)).2 rfl
          have hCfs : C ∉ Ac A := fun q => v.badD C (v.fsb C q) hC1
          have hDfs : D ∉ Ac A := fun q => v.badD D (v.fsb D q) hD1
          have stay₂ : ∀ b, h'.get? b ≠ none → h₂.get? b ≠ none ∨ b ∈ wr := fun b hb' => by
            by_cases hw : b ∈ wr
            · exact .inr hw
            · cases q : h'.get? b with
              | none => exact absurd q hb'
              | some o => left; rw [hk₂ b o hw q]; simp
          refine hasg _ _ _ _ rfl fun h₃ hk₃ => ?_
          have hns₃ : h₃.Ns C m' := (hns.at' fun o e => hk₂ C o hCwr e).at' fun o e => hk₃ C o e
          refine Iu (by simp [compEnvC, relabel, sc.kind]) (fun x hx => lookup_relabel_local (sc.loc x hx)) hns₃ fun h₄ tk₄ hns₄ hk₄ => ?_
          dsimp only at hns₄ hk₄ ⊢
          have hns₄ : h₄.Ns C (Iq m' xs ws) := hns₄
          have hk₄ : ∀ b o, b ≠ C → h₃.get? b = some o → h₄.get? b = some o := hk₄
          have hk₂₄ : ∀ b o, b ≠ C → h₂.get? b = some o → h₄.get? b = some o := fun b o hb' e => hk₄ b o hb' (hk₃ b o e)
          have kp₄ : Kp (Ac A) s₁.heap h₄ := fun b o e => by
            have hbC : b ≠ C := fun q => by rw [q, hC1] at e; cases e
            obtain ⟨h5, sl, h6⟩ := kp₂ b o e
            exact ⟨fun hb' => hk₂₄ b o hbC (h5 hb'), sl, hk₂₄ b _ hbC h6⟩
          have st₄ : St' (i + 1) h₄ := T.frame _ _ _ st₂ fun b hb' o e => hk₂₄ b o (fun q => hCfp (q ▸ hb')) e
          have hbd₂ : ∀ b, h'.get? b ≠ none → b ∉ wr → h₄.get? b ≠ none := fun b hb' hw => by
            by_cases hbC : b = C
            · subst hbC; obtain ⟨o, _, _, e, _⟩ := hns₄; rw [e]; simp
            · exact Fx hb' fun o q => ⟨_, hk₂₄ b o hbC (hk₂ b o hw q)⟩
          have hwr₄ : ∀ b ∈ fp, h₄.get? b ≠ none := fun b hb' => by
            have := T.there _ _ st₂ b hb'
            exact Fx this fun o q => ⟨_, hk₂₄ b o (fun q => hCfp (q ▸ hb')) q⟩
          have hbd₄ : ∀ b, bad' b → h₄.get? b ≠ none := fun b hb' => by
            by_cases hw : b ∈ wr
            · exact hwr₄ b (T.sub b hw)
            · exact hbd₂ b (hbd b hb') hw
          have cy₂₄ : Ex h₂ h₄ bad' bad' := ⟨fun b o hb' e => hk₂₄ b o (fun q => hb' (.inr (.inl q))) e, fun _ q _ => q⟩
          have cy₀₂ : Ex h' h₂ bad' bad' := ⟨fun b o hb' e => hk₂ b o (fun q => hb' (.inr (.inr (.inr q)))) e, fun _ q _ => q⟩
          have vis := comp_vis v sc kp₄ hb hbn hbd₄ hG hns₄ (fun i x hx => updAll_get sc.nodup hwl hx) (DenL.carry cy₂₄ _ _ hws) hvl
          have hlist₄ : h₄.IsList D us.toArray := hlist.at fun o e => hk₂₄ D o hDC (hk₂ D o hDwr e)
          have hden₄ : DenL c h₄ bad' zs₁ us := DenL.carry (cy₀₂.trans cy₂₄) _ _ hden
          cases qt : (Ae c.G c.F mt (σ ++ vs.map fun x => some (false, x))).bind Aa with
          | none => rw [qt] at hgo; cases hgo
          | some t =>
            rw [qt] at hgo
            refine wpAny_mono (hT A _ _ bad' _ t rm vis qt) (fun t' s₅ h₅ => ?_) fun _ _ q => q
            obtain ⟨rfl, k₅⟩ := h₅
            obtain ⟨h₅, tk₅, rfl, k₅⟩ := k₅
            dsimp only at k₅
            have fixed₅ : ∀ b o, b ∉ Ac A → h₄.get? b = some o → h₅.get? b = some o := fun b o hb' e => (k₅ b o e).1 hb'
            have vis₅ := vis.kp k₅
            have st₅ : St' (i + 1) h₅ := T.frame _ _ _ st₄ fun b hb' o e => fixed₅ b o (hfpfs b hb') e
            cases t' with
            | false =>
              rw [if_neg (by simp)]
              dsimp only at hgo
              refine ⟨ys.length + 1 - (i + 1), by lia, h₅, tk₅, _, us, zs₁, zs₂, i + 1, rfl, hlt, rfl, st₅, hlist₄.at fun o e => fixed₅ D o hDfs e, k₅.ns hns₄, kp₄.trans k₅, fun b hb' => k₅.stay (hbd₄ b hb'), fun b hb' => k₅.stay (hwr₄ b hb'), hden₄.kp k₅ (fun b q => hb b (v.fsb b q)), by exact Nat.le_trans ‹_› (Nat.le_add_right _ _), rfl, hgo⟩
            | true =>
              rw [if_pos rfl]
              dsimp only at hgo
              cases qe : Ae c.G c.F me (σ ++ vs.map fun x => some (false, x)) with
              | none => rw [qe] at hgo; cases hgo
              | some z =>
                rw [qe] at hgo
                dsimp only at hgo
                rw [Option.map_eq_some_iff] at hgo
                obtain ⟨zs₃, hgo, rfl⟩ := hgo
                refine wpAny_mono (he A _ _ bad' _ z rm vis₅ qe) (fun u s₆ h₆ => ?_) fun _ _ q => q
                obtain ⟨⟨h₆, tk₆, rfl, k₆⟩, dz, nz, _⟩ := h₆
                dsimp only at k₆ dz
                have fixed₆ : ∀ b o, b ∉ Ac A → h₅.get? b = some o → h₆.get? b = some o := fun b o hb' e => (k₆ b o e).1 hb'
                have hlist₆ : h₆.IsList D us.toArray := (hlist₄.at fun o e => fixed₅ D o hDfs e).at fun o e => fixed₆ D o hDfs e
                have hul : us.length = zs₁.length := hden.length
                refine wpAny_list_append hlist₆ (fun h₇ hl₇ hs₇ => ?_) (by rw [List.size_toArray, hul]; lia)
                have hDu : ∀ b, b ≠ D → ∀ o, h₆.get? b = some o → h₇.get? b = some o := fun b hb' o e => hs₇.extBut b o hb' e
                have cy₇ : Ex h₆ h₇ bad' bad' := ⟨fun b o hb' e => hDu b (fun q => hb' (.inr (.inr (.inl q)))) o e, fun _ q _ => q⟩
                have stay₇ : ∀ b, h₆.get? b ≠ none → h₇.get? b ≠ none := fun b hb' => by
                  by_cases hbD : b = D
                  · subst hbD; obtain ⟨o, e, _⟩ := hl₇; rw [e]; simp
                  · exact Fx hb' fun o q => ⟨_, hDu b hbD o q⟩
                have kp₆ := (kp₄.trans k₅).trans k₆
                refine ⟨ys.length + 1 - (i + 1), by lia, h₇, tk₆, Iq m' xs ws, us ++ [u], zs₁ ++ [z], zs₃, i + 1, rfl, hlt, rfl, ?_, by simpa using hl₇, ?_, ?_, ?_, ?_, ?_, by simp; assumption, by simp, hgo⟩
                · exact T.frame _ _ _ (T.frame _ _ _ st₅ fun b hb' o e => fixed₆ b o (hfpfs b hb') e) fun b hb' o e => hDu b (fun q => hDfp (q ▸ hb')) o e
                · exact (k₆.ns (k₅.ns hns₄)).at' fun o e => hDu C (Ne.symm hDC) o e
                · intro b o e
                  have hbD : b ≠ D := fun q => by rw [q, hD1] at e; cases e
                  obtain ⟨h8, sl, h9⟩ := kp₆ b o e
                  exact ⟨fun hb' => hDu b hbD o (h8 hb'), sl, hDu b hbD _ h9⟩
                · exact fun b hb' => stay₇ b (k₆.stay (k₅.stay (hbd₄ b hb')))
                · exact fun b hb' => stay₇ b (k₆.stay (k₅.stay (hwr₄ b hb')))
                · refine DenL.append (DenL.carry cy₇ _ _ ((hden₄.kp k₅ (fun b q => hb b (v.fsb b q))).kp k₆ (fun b q => hb b (v.fsb b q)))) ?_
                  simp only [DenL]
                  exact ⟨u, [], rfl, (dz.den (nz rfl)).carry cy₇, rfl⟩
      · -- the end
        have : i = ys.length := by with_reducible exact (ZE ‹_› ‹_›)
        subst this
        refine T.done _ _ _ st fun h₂ tk₂ hk₂ => ?_
        show RR (.ref D) C (.ok .next) _
        simp only [List.drop_length, Ey] at hgo
        cases hgo
        have hCwr : C ∉ wr := fun q => (below C (hfpd C (T.sub C q))).1 rfl
        have hDwr : D ∉ wr := fun q => (below D (hfpd D (T.sub D q))).2 rfl
        refine hRR D C h₂ tk₂ m' hD1 hC1 hDC (hns.at' fun o e => hk₂ C o hCwr e) ?_ ?_
        · intro b o e
          have hnw : b ∉ wr := fun q => by first | exact (nN (hwr b q) e).elim | (rw [hwr b q] at e; cases e)
          obtain ⟨h4, sl, h5⟩ := kp b o e
          exact ⟨fun hb' => hk₂ b o hnw (h4 hb'), sl, hk₂ b _ hnw h5⟩
        · have cy₀₂ : Ex h' h₂ bad' (fun b => bad b ∨ b = C) := ⟨fun b o hb' e => hk₂ b o (fun q => hb' (.inr (.inr (.inr q)))) e, fun b q _ => fun q' => q (by rcases q' with q' | q'; exact .inl q'; exact .inr (.inl q'))⟩
          simp only [List.append_nil]
          exact den_mkL (hlist.at fun o e => hk₂ D o hDwr e) (DenL.carry cy₀₂ _ _ hden) (by with_reducible exact Nat.le_trans ‹_› ‹_›)
    · subst e₂
      refine ⟨h₁, _, _, [], [], zs, 0, rfl, Nat.zero_le _, rfl, T.frame _ _ _ hst fun b _ o e => old b o e, hlist0, by rw [hCa] at hns₁; exact hns₁, kp₁, ?_, ?_, by simp [DenL], Nat.le_refl _, rfl, by simpa using hgo0⟩
      · intro b hb'
        rcases hb' with h | rfl | rfl | h
        · exact kp₁.stay (v.badD b h)
        · rw [hCa] at hns₁; obtain ⟨o, _, _, e, _⟩ := hns₁; rw [e]; simp
        · obtain ⟨o, e, _⟩ := hlist0; rw [e]; simp
        · have := hfpd b (T.sub b h)
          exact Fx this fun o q => ⟨_, old b o q⟩
      · intro b hb'
        have := hfpd b hb'
        exact Fx this fun o q => ⟨_, old b o q⟩
  rw [hCa, hDa]
  exact codeAny_compStart_list loop (T.self 0 _ _ _ (T.frame _ _ _ hst fun b _ o e => old b o e) loop)
end
end Mine
end
section
open PySem PyProof.Rows PySem.SeqAt
namespace Mine
set_option tactic.hygienic false
set_option autoImplicit false
section
variable {c : Cx} {d : Nat} {ce : CE} {cap : Bool}
noncomputable def Go (e : Expr) : Prop := ∀ env x, foldedSetIterable e env x = pure x
set_option tactic.hygienic true in
theorem comp_use {elt target iter : Expr} {ifs : List Expr} {scope : Scope} {pos : Pos} {xs : List Str} {me mi mt : ME} {cpi : Bool} {A : Around} {env : Env} {σ : St} {bad : Addr → Prop} {s : Shared} {av : AV} {use : Option (Value → Sem Unit)} {Q : Value → Shared → Prop} {E : Value → Shared → Prop} {p' : Pos}
    (ok : c.Ok) (ht : Bh target = some xs) (sc : ScOk ce.scope scope xs) (hu : Go iter) (hi : SI c d ce cpi target iter mi) (he : SE c d (Bd ce scope xs) true elt me) (hT : ST c d (Bd ce scope xs) ifs mt)
    (rm : Room A d) (v : EVis c A ce env σ bad s.heap) (e : Ae c.G c.F (.comp me xs.length mi mt) σ = some av)
    (hQ : ∀ D C h' tk m', s.heap.get? D = none → s.heap.get? C = none → D ≠ C → h'.Ns C m' → Kp (Ac A) s.heap h' → DenT c h' (fun b => bad b ∨ b = C) av (.ref D) → compPost (model c.prog c.w) A E use Q (.ref D) C (.ok .next) { s with heap := h', toks := tk }) :
    wpAny (model c.prog c.w) A (comprehension (.ListComp elt [⟨target, iter, ifs, 0⟩] scope pos) scope env p' (newList []) false (eval iter env) use) Q E s := by
  simp only [U9] at e
  split at e
  · rename_i src qs
    split at e
    · rename_i ys qi
      split at e
      · rename_i hlen
        rw [Option.map_eq_some_iff] at e
        obtain ⟨zs, hgo, rfl⟩ := e
        have hfree : ∀ p ∈ scope.names, p.2 = .free → ∃ a, env.cells.lookup p.1 = some a := fun p hp hf => (v.ck _ (sc.free p hp hf)).2
        refine wpAny_comprehension_free rfl (hu env) (closure_is hfree) sc.kind (fun x hx hl => by rw [sc.self x hx, hl]) ?_
        refine wpAny_mono (hi A env σ bad s src ys rm v qs qi) (fun x s₁ h₁ => wpAny_mono h₁ (fun it s₂ h₂ => ?_) fun _ _ q => q.elim) fun _ _ q => q.elim
        obtain ⟨s₀, k₀, hsrc⟩ := h₂
        refine comp_core (RR := fun acc C => compPost (model c.prog c.w) A E use Q acc C) ok rm (v.kpS k₀) ht sc he hT hsrc hlen hgo fun D C h' tk m' hD hC hDC hn kp dn => ?_
        have := hQ D C h' tk m' (k₀.heap.dom hD) (k₀.heap.dom hC) hDC hn (k₀.heap.trans kp) dn
        obtain ⟨h₀, tk₀, rfl, _⟩ := k₀
        exact this
      · cases e
    · cases e
  · cases e
theorem comp_den {h' h'' : Heap} {bad : Addr → Prop} {C D : Addr} {av : AV} (dn : DenT c h' (fun b => bad b ∨ b = C) av (.ref D)) (hDC : D ≠ C) (hs : ∀ b o, b ≠ C → h'.get? b = some o → h''.get? b = some o) : DenT c h'' bad av (.ref D) :=
  DenT.carryTop (bad' := bad) ⟨fun b o hb e => hs b o (fun q => hb (.inr q)) e, fun b hb _ q => hb (.inl q)⟩ av _ dn fun a o e q => by cases e; exact hs _ o hDC q
theorem SE.comp {elt target iter : Expr} {ifs : List Expr} {scope : Scope} {pos : Pos} {xs : List Str} {me mi mt : ME} {cpi : Bool}
    (ok : c.Ok) (ht : Bh target = some xs) (sc : ScOk ce.scope scope xs) (hu : Go iter) (hi : SI c d ce cpi target iter mi) (he : SE c d (Bd ce scope xs) true elt me) (hT : ST c d (Bd ce scope xs) ifs mt) :
    SE c d ce cap (.ListComp elt [⟨target, iter, ifs, 0⟩] scope pos) (.comp me xs.length mi mt) := fun A env σ bad s av rm v e => by
  rw [eval_ListComp]
  refine comp_use ok ht sc hu hi he hT rm v e fun D C h' tk m' hD hC hDC hn kp dn => ?_
  refine ⟨m', hn, fun h'' hs => ?_⟩
  have kp'' : Kp (Ac A) s.heap h'' := fun b o e => by
    have hb : b ≠ C := fun q => by rw [q, hC] at e; cases e
    obtain ⟨h4, sl, h5⟩ := kp b o e
    exact ⟨fun q => hs.extBut b o hb (h4 q), sl, hs.extBut b _ hb h5⟩
  exact .new (.mk _ _ _ kp'') v.fsb v.badD hD (comp_den dn hDC fun b o hb e => hs.extBut b o hb e)
theorem cop_of {op : CmpOp} {o : COp} (h : copOf op = some o) : op = Gf o ∧ ¬ (o = .isNone ∨ o = .isNotNone) := by
  cases op <;> simp only [copOf] at h <;> first | (cases h; done) | (cases h; exact ⟨rfl, by simp⟩)
theorem bop_of {op : Operator} {o : BOp} (h : bopOf op = some o) : op = opOf o := by
  cases op <;> simp only [bopOf] at h <;> first | (cases h; done) | (cases h; rfl)
noncomputable def plainIt : Expr → Bool
  | .Set .. => false
  | _ => true
theorem plainIt_is {e : Expr} (h : plainIt e = true) : Go e := by
  intro env x
  cases e <;> first | rfl | (cases h; done)
noncomputable def Ib : Expr → Bool
  | .Constant .. | .Name .. | .BinOp .. | .UnaryOp .. | .BoolOp .. | .Compare .. | .List .. | .Tuple .. | .Dict .. | .Subscript .. | .Call .. => true
  | _ => false
theorem swPlain_is {e : Expr} (h : Ib e = true) (x : Str) (p' : Pos) (n : Nat) (env : Env) : swapsWith e (some (.Name x p')) n env = pure false := by
  cases e <;> first | rfl | (cases h; done)
end
end Mine
end
section
open PySem PyProof.Rows PySem.SeqAt
namespace Mine
set_option tactic.hygienic false
set_option autoImplicit false
set_option genCtorIdx false in
inductive Job where
  | ex (ce : CE) (cap : Bool) (e : Expr)
  | li (ce : CE) (es : List Expr)
  | al (ce : CE) (cap : Bool) (op : BoolOp) (es : List Expr) (p : Pos)
  | it (ce : CE) (cap : Bool) (tg e : Expr)
  | ts (ce : CE) (ifs : List Expr)
  | pl (ce : CE) (e : Expr)
noncomputable abbrev Job.ctorIdx (x : Job) : Nat := @Job.casesOn (fun _ => Nat) x (fun _ _ _ => 0) (fun _ _ => 1) (fun _ _ _ _ _ => 2) (fun _ _ _ _ => 3) (fun _ _ => 4) (fun _ _ => 5)
noncomputable def boolM : BoolOp → ME → ME → ME
  | .And, a, b => .and a b
  | .Or, a, b => .or a b
structure RulesE  (P : Job → ME → Prop) : Prop where
  cNone : ∀ {ce cap k p}, P (.ex ce cap (.Constant .none k p)) (.lit .none)
  cBool : ∀ {ce cap b k p}, P (.ex ce cap (.Constant (.bool b) k p)) (.lit (.bool b))
  cInt : ∀ {ce cap i k p}, P (.ex ce cap (.Constant (.int i) k p)) (.lit (.int i))
  cStr : ∀ {ce cap x k p} (h : x.cps.size ≤ LIM), P (.ex ce cap (.Constant (.str x) k p)) (.lit (.str x.cps.toList))
  rd : ∀ {ce x p i} (hd : (x == ("__debug__" : Str)) = false) (hv : ce.vm.lookup x = some i), P (.ex ce false (.Name x p)) (.rd i)
  var : ∀ {ce x p i} (hd : (x == ("__debug__" : Str)) = false) (hv : ce.vm.lookup x = some i), P (.ex ce true (.Name x p)) (.var i)
  glob : ∀ {ce cap x p} (hg : ce.glob x = some .tab), P (.ex ce cap (.Name x p)) (.glob x)
  bin : ∀ {ce cap l op r p o a b} (ho : op = opOf o) (ha : P (.ex ce false l) a) (hb : P (.ex ce false r) b), P (.ex ce cap (.BinOp l op r p)) (.bin o a b)
  not : ∀ {ce cap x p a} (ha : P (.ex ce false x) a), P (.ex ce cap (.UnaryOp .Not x p)) (.not a)
  neg : ∀ {ce cap x p a} (ha : P (.ex ce false x) a), P (.ex ce cap (.UnaryOp .USub x p)) (.neg a)
  bool : ∀ {ce cap op es p m} (h : P (.al ce cap op es p) m), P (.ex ce cap (.BoolOp op es p)) m
  one : ∀ {ce cap op e p m} (h : P (.ex ce cap e) m), P (.al ce cap op [e] p) m
  two : ∀ {ce cap op e e' r p a b} (h : P (.ex ce cap e) a) (hr : P (.al ce cap op (e' :: r) p) b), P (.al ce cap op (e :: e' :: r) p) (boolM op a b)
  isType : ∀ {ce cap ty p₁ x p₂ t p₃ p tn a} (hg : ce.glob ty = some (.ty "type")) (hg' : ce.glob t = some (.ty tn)) (hs : Ai x = true) (ha : P (.ex ce false x) a), P (.ex ce cap (.Compare (.Call (.Name ty p₁) [x] [] p₂) [.Is] [.Name t p₃] p)) (.isType tn a)
  isNone : ∀ {ce cap l k p' p a} (ha : P (.ex ce false l) a), P (.ex ce cap (.Compare l [.Is] [.Constant .none k p'] p)) (.cmp .isNone a (.lit .none))
  isNotNone : ∀ {ce cap l k p' p a} (ha : P (.ex ce false l) a), P (.ex ce cap (.Compare l [.IsNot] [.Constant .none k p'] p)) (.cmp .isNotNone a (.lit .none))
  cmp : ∀ {ce cap l op r p o a b} (ho : op = Gf o) (hn : ¬ (o = .isNone ∨ o = .isNotNone)) (hm : behindInMarks op r = false) (ha : P (.ex ce false l) a) (hb : P (.ex ce false r) b), P (.ex ce cap (.Compare l [op] [r] p)) (.cmp o a b)
  list : ∀ {ce cap es p m} (h : P (.li ce es) m), P (.ex ce cap (.List es p)) (.list m)
  tup : ∀ {ce cap es k p m} (h : P (.li ce es) m), P (.ex ce cap (.Tuple es k p)) (.tup m)
  nil : ∀ {ce}, P (.li ce []) .nil
  cons : ∀ {ce e r a b} (hs : Ai e = true) (ha : P (.ex ce true e) a) (hb : P (.li ce r) b), P (.li ce (e :: r)) (.cons a b)
  sliceTo : ∀ {ce cap v u p' p a b} (ha : P (.ex ce false v) a) (hb : P (.ex ce false u) b), P (.ex ce cap (.Subscript v (.Slice none (some u) none p') p)) (.sliceTo a b)
  sliceFrom : ∀ {ce cap v u p' p a b} (ha : P (.ex ce false v) a) (hb : P (.ex ce false u) b), P (.ex ce cap (.Subscript v (.Slice (some u) none none p') p)) (.sliceFrom a b)
  idx : ∀ {ce cap v u p a b} (ha : P (.ex ce false v) a) (hb : P (.ex ce false u) b), P (.ex ce cap (.Subscript v u p)) (.idx a b)
  call : ∀ {ce cap x p' e r p i fr m} (hg : ce.glob x = some (.fn i fr)) (hs : Ai e = true) (h : P (.li ce (e :: r)) m), P (.ex ce cap (.Call (.Name x p') (e :: r) [] p)) (.call i m)
  f1b : ∀ {ce cap x p' e p id g m} (hg : ce.glob x = some (.bi id)) (hf : fval g = .builtin id) (hs : Ai e = true) (h : P (.ex ce false e) m), P (.ex ce cap (.Call (.Name x p') [e] [] p)) (.f1 g m)
  f1t : ∀ {ce cap x p' e p id g m} (hg : ce.glob x = some (.ty id)) (hf : fval g = .type id) (hs : Ai e = true) (h : P (.ex ce false e) m), P (.ex ce cap (.Call (.Name x p') [e] [] p)) (.f1 g m)
  join : ∀ {ce cap o meth apos a p x y} (hm : meth = ("join" : Str)) (hl : (apos.endLine == p.line) = true) (hb : Jb o = false) (hs : Ai a = true) (ho : P (.ex ce false o) x) (ha : P (.ex ce false a) y), P (.ex ce cap (.Call (.Attribute o meth apos) [a] [] p)) (.join x y)
  comp : ∀ {ce cap elt tgt iter ifs scope p xs me mi mt} (ht : Bh tgt = some xs) (hsc : Eo ce.scope scope xs = true) (hi : P (.it ce false tgt iter) mi) (he : P (.ex (Bd ce scope xs) true elt) me) (hT : P (.ts (Bd ce scope xs) ifs) mt), P (.ex ce cap (.ListComp elt [⟨tgt, iter, ifs, 0⟩] scope p)) (.comp me xs.length mi mt)
  tNil : ∀ {ce}, P (.ts ce []) (.lit (.bool true))
  tOne : ∀ {ce t m} (h : P (.ex ce false t) m), P (.ts ce [t]) m
  tChain : ∀ {ce l q₁ q₂ r₁ r₂ p o₁ o₂ a b e'} (h₁ : q₁ = Gf o₁) (h₂ : q₂ = Gf o₂) (hn₁ : ¬ (o₁ = .isNone ∨ o₁ = .isNotNone)) (hn₂ : ¬ (o₂ = .isNone ∨ o₂ = .isNotNone)) (hm : behindInMarks q₂ r₂ = false) (ha : P (.ex ce false l) a) (hb : P (.ex ce false r₁) b) (he : P (.ex ce false r₂) e'), P (.ts ce [.Compare l [q₁, q₂] [r₁, r₂] p]) (.chain o₁ o₂ a b e')
  range1 : ∀ {ce cap tg x p' a p m} (hg : ce.glob x = some (.ty "range")) (hs : Ai a = true) (ha : P (.ex ce false a) m), P (.it ce cap tg (.Call (.Name x p') [a] [] p)) (.range (.lit (.int 0)) m (.lit (.int 1)))
  range2 : ∀ {ce cap tg x p' a b p m n} (hg : ce.glob x = some (.ty "range")) (hs : Ai a = true) (hs' : Ai b = true) (ha : P (.ex ce false a) m) (hb : P (.ex ce false b) n), P (.it ce cap tg (.Call (.Name x p') [a, b] [] p)) (.range m n (.lit (.int 1)))
  range3 : ∀ {ce cap tg x p' a b e p m n k} (hg : ce.glob x = some (.ty "range")) (hs : Ai a = true) (hs' : Ai b = true) (hs'' : Ai e = true) (ha : P (.ex ce false a) m) (hb : P (.ex ce false b) n) (he : P (.ex ce false e) k), P (.it ce cap tg (.Call (.Name x p') [a, b, e] [] p)) (.range m n k)
  m2 : ∀ {ce cap x p' a b p m n mx} (hg : ce.glob x = some (.bi (if mx then "max" else "min"))) (hs : Ai a = true) (hs' : Ai b = true) (ha : P (.ex ce false a) m) (hb : P (.ex ce false b) n), P (.ex ce cap (.Call (.Name x p') [a, b] [] p)) (.m2 mx m n)
  count : ∀ {ce cap o meth apos a p x y} (hm : meth = ("count" : Str)) (hl : (apos.endLine == p.line) = true) (hb : Jb o = false) (hs : Ai a = true) (ho : P (.pl ce o) x) (ha : P (.ex ce false a) y), P (.ex ce cap (.Call (.Attribute o meth apos) [a] [] p)) (.count x y)
  pld : ∀ {ce es p m} (h : P (.li ce es) m), P (.pl ce (.List es p)) (.pl m)
  pln : ∀ {ce x p i} (hd : (x == ("__debug__" : Str)) = false) (hv : ce.vm.lookup x = some i), P (.pl ce (.Name x p)) (.rd i)
  consP : ∀ {ce es p r a b} (ha : P (.li ce es) a) (hb : P (.li ce r) b), P (.li ce (.List es p :: r)) (.cons (.pl a) b)
  zip : ∀ {ce cap elts kk pos x p' a b p m n} (hg : ce.glob x = some (.ty "zip")) (hs : Ai a = true) (hs' : Ai b = true) (ha : P (.ex ce cap a) m) (hb : P (.ex ce cap b) n), P (.it ce cap (.Tuple elts kk pos) (.Call (.Name x p') [a, b] [] p)) (.zip m n)
  enum : ∀ {ce cap elts kk pos x p' a p m} (hg : ce.glob x = some (.ty "enumerate")) (hs : Ai a = true) (ha : P (.ex ce cap a) m), P (.it ce cap (.Tuple elts kk pos) (.Call (.Name x p') [a] [] p)) (.enum m)
  of : ∀ {ce cap tg e m} (hp : plainIt e = true) (h : P (.ex ce cap e) m), P (.it ce cap tg e) m
noncomputable def Comp  (j : Job) (m : ME) : Prop := ∀ P : Job → ME → Prop, RulesE  P → P j m
theorem Comp.cNone  {ce cap k p} : Comp (.ex ce cap (.Constant .none k p)) (.lit .none) := fun P R => R.cNone 
theorem Comp.cBool  {ce cap b k p} : Comp (.ex ce cap (.Constant (.bool b) k p)) (.lit (.bool b)) := fun P R => R.cBool 
theorem Comp.cInt  {ce cap i k p} : Comp (.ex ce cap (.Constant (.int i) k p)) (.lit (.int i)) := fun P R => R.cInt 
theorem Comp.cStr  {ce cap x k p} (h : x.cps.size ≤ LIM) : Comp (.ex ce cap (.Constant (.str x) k p)) (.lit (.str x.cps.toList)) := fun P R => R.cStr h
theorem Comp.rd  {ce x p i} (hd : (x == ("__debug__" : Str)) = false) (hv : ce.vm.lookup x = some i) : Comp (.ex ce false (.Name x p)) (.rd i) := fun P R => R.rd hd hv
theorem Comp.var  {ce x p i} (hd : (x == ("__debug__" : Str)) = false) (hv : ce.vm.lookup x = some i) : Comp (.ex ce true (.Name x p)) (.var i) := fun P R => R.var hd hv
theorem Comp.glob  {ce cap x p} (hg : ce.glob x = some .tab) : Comp (.ex ce cap (.Name x p)) (.glob x) := fun P R => R.glob hg
theorem Comp.bin  {ce cap l op r p o a b} (ho : op = opOf o) (ha : Comp (.ex ce false l) a) (hb : Comp (.ex ce false r) b) : Comp (.ex ce cap (.BinOp l op r p)) (.bin o a b) := fun P R => R.bin ho (ha P R) (hb P R)
theorem Comp.not  {ce cap x p a} (ha : Comp (.ex ce false x) a) : Comp (.ex ce cap (.UnaryOp .Not x p)) (.not a) := fun P R => R.not (ha P R)
theorem Comp.neg  {ce cap x p a} (ha : Comp (.ex ce false x) a) : Comp (.ex ce cap (.UnaryOp .USub x p)) (.neg a) := fun P R => R.neg (ha P R)
theorem Comp.bool  {ce cap op es p m} (h : Comp (.al ce cap op es p) m) : Comp (.ex ce cap (.BoolOp op es p)) m := fun P R => R.bool (h P R)
theorem Comp.one  {ce cap op e p m} (h : Comp (.ex ce cap e) m) : Comp (.al ce cap op [e] p) m := fun P R => R.one (h P R)
theorem Comp.two  {ce cap op e e' r p a b} (h : Comp (.ex ce cap e) a) (hr : Comp (.al ce cap op (e' :: r) p) b) : Comp (.al ce cap op (e :: e' :: r) p) (boolM op a b) := fun P R => R.two (h P R) (hr P R)
theorem Comp.isType  {ce cap ty p₁ x p₂ t p₃ p tn a} (hg : ce.glob ty = some (.ty "type")) (hg' : ce.glob t = some (.ty tn)) (hs : Ai x = true) (ha : Comp (.ex ce false x) a) : Comp (.ex ce cap (.Compare (.Call (.Name ty p₁) [x] [] p₂) [.Is] [.Name t p₃] p)) (.isType tn a) := fun P R => R.isType hg hg' hs (ha P R)
theorem Comp.isNone  {ce cap l k p' p a} (ha : Comp (.ex ce false l) a) : Comp (.ex ce cap (.Compare l [.Is] [.Constant .none k p'] p)) (.cmp .isNone a (.lit .none)) := fun P R => R.isNone (ha P R)
theorem Comp.isNotNone  {ce cap l k p' p a} (ha : Comp (.ex ce false l) a) : Comp (.ex ce cap (.Compare l [.IsNot] [.Constant .none k p'] p)) (.cmp .isNotNone a (.lit .none)) := fun P R => R.isNotNone (ha P R)
theorem Comp.cmp  {ce cap l op r p o a b} (ho : op = Gf o) (hn : ¬ (o = .isNone ∨ o = .isNotNone)) (hm : behindInMarks op r = false) (ha : Comp (.ex ce false l) a) (hb : Comp (.ex ce false r) b) : Comp (.ex ce cap (.Compare l [op] [r] p)) (.cmp o a b) := fun P R => R.cmp ho hn hm (ha P R) (hb P R)
theorem Comp.list  {ce cap es p m} (h : Comp (.li ce es) m) : Comp (.ex ce cap (.List es p)) (.list m) := fun P R => R.list (h P R)
theorem Comp.tup  {ce cap es k p m} (h : Comp (.li ce es) m) : Comp (.ex ce cap (.Tuple es k p)) (.tup m) := fun P R => R.tup (h P R)
theorem Comp.nil  {ce} : Comp (.li ce []) .nil := fun P R => R.nil 
theorem Comp.cons  {ce e r a b} (hs : Ai e = true) (ha : Comp (.ex ce true e) a) (hb : Comp (.li ce r) b) : Comp (.li ce (e :: r)) (.cons a b) := fun P R => R.cons hs (ha P R) (hb P R)
theorem Comp.sliceTo  {ce cap v u p' p a b} (ha : Comp (.ex ce false v) a) (hb : Comp (.ex ce false u) b) : Comp (.ex ce cap (.Subscript v (.Slice none (some u) none p') p)) (.sliceTo a b) := fun P R => R.sliceTo (ha P R) (hb P R)
theorem Comp.sliceFrom  {ce cap v u p' p a b} (ha : Comp (.ex ce false v) a) (hb : Comp (.ex ce false u) b) : Comp (.ex ce cap (.Subscript v (.Slice (some u) none none p') p)) (.sliceFrom a b) := fun P R => R.sliceFrom (ha P R) (hb P R)
theorem Comp.idx  {ce cap v u p a b} (ha : Comp (.ex ce false v) a) (hb : Comp (.ex ce false u) b) : Comp (.ex ce cap (.Subscript v u p)) (.idx a b) := fun P R => R.idx (ha P R) (hb P R)
theorem Comp.call  {ce cap x p' e r p i fr m} (hg : ce.glob x = some (.fn i fr)) (hs : Ai e = true) (h : Comp (.li ce (e :: r)) m) : Comp (.ex ce cap (.Call (.Name x p') (e :: r) [] p)) (.call i m) := fun P R => R.call hg hs (h P R)
theorem Comp.f1b  {ce cap x p' e p id g m} (hg : ce.glob x = some (.bi id)) (hf : fval g = .builtin id) (hs : Ai e = true) (h : Comp (.ex ce false e) m) : Comp (.ex ce cap (.Call (.Name x p') [e] [] p)) (.f1 g m) := fun P R => R.f1b hg hf hs (h P R)
theorem Comp.f1t  {ce cap x p' e p id g m} (hg : ce.glob x = some (.ty id)) (hf : fval g = .type id) (hs : Ai e = true) (h : Comp (.ex ce false e) m) : Comp (.ex ce cap (.Call (.Name x p') [e] [] p)) (.f1 g m) := fun P R => R.f1t hg hf hs (h P R)
theorem Comp.join  {ce cap o meth apos a p x y} (hm : meth = ("join" : Str)) (hl : (apos.endLine == p.line) = true) (hb : Jb o = false) (hs : Ai a = true) (ho : Comp (.ex ce false o) x) (ha : Comp (.ex ce false a) y) : Comp (.ex ce cap (.Call (.Attribute o meth apos) [a] [] p)) (.join x y) := fun P R => R.join hm hl hb hs (ho P R) (ha P R)
theorem Comp.comp  {ce cap elt tgt iter ifs scope p xs me mi mt} (ht : Bh tgt = some xs) (hsc : Eo ce.scope scope xs = true) (hi : Comp (.it ce false tgt iter) mi) (he : Comp (.ex (Bd ce scope xs) true elt) me) (hT : Comp (.ts (Bd ce scope xs) ifs) mt) : Comp (.ex ce cap (.ListComp elt [⟨tgt, iter, ifs, 0⟩] scope p)) (.comp me xs.length mi mt) := fun P R => R.comp ht hsc (hi P R) (he P R) (hT P R)
theorem Comp.tNil  {ce} : Comp (.ts ce []) (.lit (.bool true)) := fun P R => R.tNil 
theorem Comp.tOne  {ce t m} (h : Comp (.ex ce false t) m) : Comp (.ts ce [t]) m := fun P R => R.tOne (h P R)
theorem Comp.tChain  {ce l q₁ q₂ r₁ r₂ p o₁ o₂ a b e'} (h₁ : q₁ = Gf o₁) (h₂ : q₂ = Gf o₂) (hn₁ : ¬ (o₁ = .isNone ∨ o₁ = .isNotNone)) (hn₂ : ¬ (o₂ = .isNone ∨ o₂ = .isNotNone)) (hm : behindInMarks q₂ r₂ = false) (ha : Comp (.ex ce false l) a) (hb : Comp (.ex ce false r₁) b) (he : Comp (.ex ce false r₂) e') : Comp (.ts ce [.Compare l [q₁, q₂] [r₁, r₂] p]) (.chain o₁ o₂ a b e') := fun P R => R.tChain h₁ h₂ hn₁ hn₂ hm (ha P R) (hb P R) (he P R)
theorem Comp.range1  {ce cap tg x p' a p m} (hg : ce.glob x = some (.ty "range")) (hs : Ai a = true) (ha : Comp (.ex ce false a) m) : Comp (.it ce cap tg (.Call (.Name x p') [a] [] p)) (.range (.lit (.int 0)) m (.lit (.int 1))) := fun P R => R.range1 hg hs (ha P R)
theorem Comp.range2  {ce cap tg x p' a b p m n} (hg : ce.glob x = some (.ty "range")) (hs : Ai a = true) (hs' : Ai b = true) (ha : Comp (.ex ce false a) m) (hb : Comp (.ex ce false b) n) : Comp (.it ce cap tg (.Call (.Name x p') [a, b] [] p)) (.range m n (.lit (.int 1))) := fun P R => R.range2 hg hs hs' (ha P R) (hb P R)
theorem Comp.range3  {ce cap tg x p' a b e p m n k} (hg : ce.glob x = some (.ty "range")) (hs : Ai a = true) (hs' : Ai b = true) (hs'' : Ai e = true) (ha : Comp (.ex ce false a) m) (hb : Comp (.ex ce false b) n) (he : Comp (.ex ce false e) k) : Comp (.it ce cap tg (.Call (.Name x p') [a, b, e] [] p)) (.range m n k) := fun P R => R.range3 hg hs hs' hs'' (ha P R) (hb P R) (he P R)
theorem Comp.m2  {ce cap x p' a b p m n mx} (hg : ce.glob x = some (.bi (if mx then "max" else "min"))) (hs : Ai a = true) (hs' : Ai b = true) (ha : Comp (.ex ce false a) m) (hb : Comp (.ex ce false b) n) : Comp (.ex ce cap (.Call (.Name x p') [a, b] [] p)) (.m2 mx m n) := fun P R => R.m2 hg hs hs' (ha P R) (hb P R)
theorem Comp.count  {ce cap o meth apos a p x y} (hm : meth = ("count" : Str)) (hl : (apos.endLine == p.line) = true) (hb : Jb o = false) (hs : Ai a = true) (ho : Comp (.pl ce o) x) (ha : Comp (.ex ce false a) y) : Comp (.ex ce cap (.Call (.Attribute o meth apos) [a] [] p)) (.count x y) := fun P R => R.count hm hl hb hs (ho P R) (ha P R)
theorem Comp.pld  {ce es p m} (h : Comp (.li ce es) m) : Comp (.pl ce (.List es p)) (.pl m) := fun P R => R.pld (h P R)
theorem Comp.pln  {ce x p i} (hd : (x == ("__debug__" : Str)) = false) (hv : ce.vm.lookup x = some i) : Comp (.pl ce (.Name x p)) (.rd i) := fun P R => R.pln hd hv
theorem Comp.consP  {ce es p r a b} (ha : Comp (.li ce es) a) (hb : Comp (.li ce r) b) : Comp (.li ce (.List es p :: r)) (.cons (.pl a) b) := fun P R => R.consP (ha P R) (hb P R)
theorem Comp.zip  {ce cap elts kk pos x p' a b p m n} (hg : ce.glob x = some (.ty "zip")) (hs : Ai a = true) (hs' : Ai b = true) (ha : Comp (.ex ce cap a) m) (hb : Comp (.ex ce cap b) n) : Comp (.it ce cap (.Tuple elts kk pos) (.Call (.Name x p') [a, b] [] p)) (.zip m n) := fun P R => R.zip hg hs hs' (ha P R) (hb P R)
theorem Comp.enum  {ce cap elts kk pos x p' a p m} (hg : ce.glob x = some (.ty "enumerate")) (hs : Ai a = true) (ha : Comp (.ex ce cap a) m) : Comp (.it ce cap (.Tuple elts kk pos) (.Call (.Name x p') [a] [] p)) (.enum m) := fun P R => R.enum hg hs (ha P R)
theorem Comp.of  {ce cap tg e m} (hp : plainIt e = true) (h : Comp (.ex ce cap e) m) : Comp (.it ce cap tg e) m := fun P R => R.of hp (h P R)
section
variable {c : Cx} {d : Nat}
noncomputable def Means (c : Cx) (d : Nat) : Job → ME → Prop
  | .ex ce cap e, m => SE c d ce cap e m ∧ (cap = false → SB c d ce e m)
  | .li ce es, m => SL c d ce es m
  | .al ce cap op es p, m => SE c d ce cap (.BoolOp op es p) m ∧ (cap = false → SAll c d ce op es m)
  | .it ce cap tg e, m => SI c d ce cap tg e m ∧ Go e
  | .ts ce ifs, m => ST c d ce ifs m
  | .pl ce e, m => SE c d ce false e m
theorem both {ce : CE} {cap : Bool} {e : Expr} {m : ME} (ok : c.Ok) (h : SE c d ce cap e m) (he : ∀ (env : Env) (whole : Sem Value), isTrue e env whole = (do let v ← whole; standAt e.pos; holding [v] (PySem.truthy v))) : SE c d ce cap e m ∧ (cap = false → SB c d ce e m) :=
  ⟨h, fun q => by subst q; exact SB.of ok h he⟩
theorem soundE (ok : c.Ok) (hF : ∀ f args r, c.F f args = some r → FnOk c d f args r) {j : Job} {m : ME} (h : Comp j m) : Means c d j m := h _ {
    cNone := both ok (SE.const_none _ _) (fun _ _ => rfl)
    cBool := both ok (SE.const_bool _ _ _) (fun _ _ => rfl)
    cInt := both ok (SE.const_int _ _ _) (fun _ _ => rfl)
    cStr := fun h => both ok (SE.const_str _ _ _ h) (fun _ _ => rfl)
    rd := fun hd hv => both ok (SE.rd _ hd hv) (fun _ _ => rfl)
    var := fun hd hv => both ok (SE.var _ hd hv) (fun _ _ => rfl)
    glob := fun hg => both ok (SE.glob ok _ (Bf hg) hg) (fun _ _ => rfl)
    bin := fun ho ia ib => by rw [ho]; exact both ok (SE.bin _ ok ia.1 ib.1) (fun _ _ => rfl)
    not := fun ia => ⟨SE.not ok _ ia.1, fun _ => SB.not _ (ia.2 rfl)⟩
    neg := fun ia => both ok (SE.neg _ ia.1) (fun _ _ => rfl)
    bool := fun ih => ⟨ih.1, fun q => SB.bool _ (ih.2 q)⟩
    one := fun ih => ⟨SE.bool1 _ ih.1, fun q => SAll.one (ih.2 q)⟩
    two := fun {_ _ op _ _ _ _ _ _} ia ib => by
      cases op
      · exact ⟨SE.and ok _ ia.1 ib.1, fun q => SAll.and (ia.2 q) (ib.2 q)⟩
      · exact ⟨SE.or ok _ ia.1 ib.1, fun q => SAll.or (ia.2 q) (ib.2 q)⟩
    isType := fun hg hg' hs ia => ⟨SE.isType ok _ _ _ _ (Bf hg) (Bf hg') hg hg' hs ia.1, fun _ => SB.isType ok _ _ _ _ (Bf hg) (Bf hg') hg hg' hs ia.1⟩
    isNone := fun ia => ⟨SE.cmp (op := .isNone) ok _ ia.1 (SE.const_none _ _) rfl (fun _ => rfl), fun _ => SB.cmp (op := .isNone) ok _ ia.1 (SE.const_none _ _) rfl (fun _ => rfl)⟩
    isNotNone := fun ia => ⟨SE.cmp (op := .isNotNone) ok _ ia.1 (SE.const_none _ _) rfl (fun _ => rfl), fun _ => SB.cmp (op := .isNotNone) ok _ ia.1 (SE.const_none _ _) rfl (fun _ => rfl)⟩
    cmp := fun ho hn hm ia ib => by subst ho; exact ⟨SE.cmp ok _ ia.1 ib.1 hm (fun q => absurd q hn), fun _ => SB.cmp ok _ ia.1 ib.1 hm (fun q => absurd q hn)⟩
    list := fun ih => both ok (SE.list _ ih) (fun _ _ => rfl)
    tup := fun ih => both ok (SE.tup _ _ ih) (fun _ _ => rfl)
    nil := SL.nil
    cons := fun hs ia ib => SL.cons hs ia.1 ib
    sliceTo := fun ia ib => both ok (SE.sliceTo ok _ _ ia.1 ib.1) (fun _ _ => rfl)
    sliceFrom := fun ia ib => both ok (SE.sliceFrom ok _ _ ia.1 ib.1) (fun _ _ => rfl)
    idx := fun ia ib => both ok (SE.idx ok _ ia.1 ib.1) (fun _ _ => rfl)
    call := fun hg hs ih => both ok (SE.call ok hF _ _ (Bf hg) hg hs ih) (fun _ _ => rfl)
    f1b := fun hg hf hs ih => both ok (SE.f1b ok _ _ (Bf hg) hg hf hs ih.1) (fun _ _ => rfl)
    f1t := fun hg hf hs ih => both ok (SE.f1t ok _ _ (Bf hg) hg hf hs ih.1) (fun _ _ => rfl)
    join := fun hm hl hb hs io ia => by subst hm; exact both ok (SE.join ok _ _ hl hb hs io.1 ia.1) (fun _ _ => rfl)
    comp := fun ht hsc ii ie iT => both ok (SE.comp ok ht (ScOk.of hsc) ii.2 ii.1 ie.1 iT) (fun _ _ => rfl)
    tNil := ST.nil
    tOne := fun ih => ST.one (ih.2 rfl)
    tChain := fun h₁ h₂ hn₁ hn₂ hm ia ib ie => by subst h₁ h₂; exact ST.one (SE.chain ok _ ia.1 ib.1 ie.1 hm hn₁ hn₂)
    range1 := fun hg hs ia => ⟨SI.range1 ok _ _ (Bf hg) hg hs ia.1, fun _ _ => rfl⟩
    range2 := fun hg hs hs' ia ib => ⟨SI.range2 ok _ _ (Bf hg) hg hs hs' ia.1 ib.1, fun _ _ => rfl⟩
    range3 := fun hg hs hs' hs'' ia ib ie => ⟨SI.range3 ok _ _ (Bf hg) hg hs hs' hs'' ia.1 ib.1 ie.1, fun _ _ => rfl⟩
    m2 := fun hg hs hs' ia ib => both ok (SE.m2 ok _ _ hg hs hs' ia.1 ib.1) (fun _ _ => rfl)
    count := fun hm hl hb hs io ia => by subst hm; exact both ok (SE.count ok _ _ hl hb hs io ia.1) (fun _ _ => rfl)
    pld := fun ih => SE.pl _ ih
    pln := fun hd hv => SE.rd _ hd hv
    consP := fun ia ib => SL.cons rfl (SE.pl _ ia) ib
    zip := fun hg hs hs' ia ib => ⟨SI.zip ok _ _ hg hs hs' ia.1 ib.1, fun _ _ => rfl⟩
    enum := fun hg hs ia => ⟨SI.enum ok _ _ hg hs ia.1, fun _ _ => rfl⟩
    of := fun hp ih => ⟨SI.of ok ih.1, plainIt_is hp⟩ }
end
end Mine
end
section
open PySem PyProof.Rows PySem.SeqAt
namespace Mine
set_option tactic.hygienic false
set_option autoImplicit false
abbrev RJ (j : Job) : Type := Option { m : ME // Comp j m }
abbrev RecE : Type := (ce : CE) → (cap : Bool) → (e : Expr) → RJ (.ex ce cap e)
noncomputable def cName (ce : CE) (cap : Bool) (x : Str) (p : Pos) : RJ (.ex ce cap (.Name x p)) :=
  if hd : (x == ("__debug__" : Str)) = false then (match hv : ce.vm.lookup x with
    | some i => (match cap with
      | true => some ⟨.var i, .var hd hv⟩
      | false => some ⟨.rd i, .rd hd hv⟩)
    | none => (match hg : ce.glob x with
      | some .tab => some ⟨.glob x, .glob hg⟩
      | _ => none)) else none
noncomputable def cLi (f : RecE) (ce : CE) : (es : List Expr) → RJ (.li ce es)
  | [] => some ⟨.nil, .nil⟩
  | e :: r => if hs : Ai e = true then (f ce true e).bind fun a => (cLi f ce r).map fun b => ⟨.cons a.1 b.1, .cons hs a.2 b.2⟩ else none
noncomputable def cArgs (f : RecE) (ce : CE) : (es : List Expr) → RJ (.li ce es)
  | [] => some ⟨.nil, .nil⟩
  | e :: r => (match e with
    | .List es p => (cLi f ce es).bind fun a => (cArgs f ce r).map fun b => ⟨.cons (.pl a.1) b.1, .consP a.2 b.2⟩
    | e => if hs : Ai e = true then (f ce true e).bind fun a => (cArgs f ce r).map fun b => ⟨.cons a.1 b.1, .cons hs a.2 b.2⟩ else none)
noncomputable def cPl (f : RecE) (ce : CE) (e : Expr) : RJ (.pl ce e) := match e with
  | .List es p => (cLi f ce es).map fun a => ⟨.pl a.1, .pld a.2⟩
  | .Name x p => if hd : (x == ("__debug__" : Str)) = false then (match hv : ce.vm.lookup x with
    | some i => some ⟨.rd i, .pln hd hv⟩
    | none => none) else none
  | _ => none
noncomputable def biM (id : String) : Option { mx : Bool // id = if mx then "max" else "min" } :=
  if h : id = "max" then some ⟨true, h⟩ else if h : id = "min" then some ⟨false, h⟩ else none
noncomputable def cAl (f : RecE) (ce : CE) (cap : Bool) (op : BoolOp) (p : Pos) : (es : List Expr) → RJ (.al ce cap op es p)
  | [] => none
  | e :: r => (f ce cap e).bind fun a => (match r with
    | [] => some ⟨a.1, .one a.2⟩
    | e' :: r' => (cAl f ce cap op p (e' :: r')).map fun b => ⟨boolM op a.1 b.1, .two a.2 b.2⟩)
noncomputable def cCmpO (f : RecE) (ce : CE) (cap : Bool) (l : Expr) (op : CmpOp) (r : Expr) (p : Pos) : RJ (.ex ce cap (.Compare l [op] [r] p)) :=
  match ho : copOf op with
  | some o => if hm : behindInMarks op r = false then (f ce false l).bind fun a => (f ce false r).map fun b => ⟨.cmp o a.1 b.1, .cmp (cop_of ho).1 (cop_of ho).2 hm a.2 b.2⟩ else none
  | none => none
noncomputable def cCmp (f : RecE) (ce : CE) (cap : Bool) (l : Expr) (op : CmpOp) (r : Expr) (p : Pos) : RJ (.ex ce cap (.Compare l [op] [r] p)) :=
  match op with
  | .Is => (match r with
    | .Constant .none k p' => (f ce false l).map fun a => ⟨_, .isNone a.2⟩
    | .Name t p₃ => (match l with
      | .Call (.Name ty p₁) [x] [] p₂ => if hs : Ai x = true then (match hg : ce.glob ty with
        | some (.ty "type") => (match hg' : ce.glob t with
          | some (.ty tn) => (f ce false x).map fun a => ⟨.isType tn a.1, .isType hg hg' hs a.2⟩
          | _ => none)
        | _ => none) else none
      | _ => none)
    | _ => none)
  | .IsNot => (match r with
    | .Constant .none k p' => (f ce false l).map fun a => ⟨_, .isNotNone a.2⟩
    | r => if hm : behindInMarks .IsNot r = false then (f ce false l).bind fun a => (f ce false r).map fun b => ⟨.cmp .isNotBool a.1 b.1, .cmp rfl (by simp) hm a.2 b.2⟩ else none)
  | op => cCmpO f ce cap l op r p
noncomputable def cSub (f : RecE) (ce : CE) (cap : Bool) (v s : Expr) (p : Pos) : RJ (.ex ce cap (.Subscript v s p)) :=
  (f ce false v).bind fun a => match s with
  | .Slice none (some u) none p' => (f ce false u).map fun b => ⟨.sliceTo a.1 b.1, .sliceTo a.2 b.2⟩
  | .Slice (some u) none none p' => (f ce false u).map fun b => ⟨.sliceFrom a.1 b.1, .sliceFrom a.2 b.2⟩
  | .Slice .. => none
  | s => (f ce false s).map fun b => ⟨.idx a.1 b.1, .idx a.2 b.2⟩
noncomputable def biF (id : String) : Option { g : F1 // fval g = .builtin id } :=
  if h : id = "len" then some ⟨.len, by rw [h]; rfl⟩ else if h : id = "abs" then some ⟨.abs, by rw [h]; rfl⟩ else if h : id = "sum" then some ⟨.sum, by rw [h]; rfl⟩ else if h : id = "ord" then some ⟨.ord, by rw [h]; rfl⟩ else if h : id = "max" then some ⟨.maxL, by rw [h]; rfl⟩ else none
noncomputable def tyF (id : String) : Option { g : F1 // fval g = .type id } :=
  if h : id = "str" then some ⟨.str, by rw [h]; rfl⟩ else if h : id = "list" then some ⟨.list, by rw [h]; rfl⟩ else none
noncomputable def cCallN (f : RecE) (ce : CE) (cap : Bool) (x : Str) (p' : Pos) (args : List Expr) (p : Pos) : RJ (.ex ce cap (.Call (.Name x p') args [] p)) :=
  match hg : ce.glob x with
  | some (.fn i fr) => (match args with
    | e :: r => if hs : Ai e = true then (cArgs f ce (e :: r)).map fun m => ⟨.call i m.1, .call hg hs m.2⟩ else none
    | [] => none)
  | some (.bi id) => (match args with
    | [e] => if hs : Ai e = true then (biF id).bind fun g => (f ce false e).map fun m => ⟨.f1 g.1 m.1, .f1b hg g.2 hs m.2⟩ else none
    | [a, b] => if hs : Ai a = true then if hs' : Ai b = true then (biM id).bind fun mx => (f ce false a).bind fun m => (f ce false b).map fun n => ⟨.m2 mx.1 m.1 n.1, .m2 (mx.2 ▸ hg) hs hs' m.2 n.2⟩ else none else none
    | _ => none)
  | some (.ty id) => (match args with
    | [e] => if hs : Ai e = true then (tyF id).bind fun g => (f ce false e).map fun m => ⟨.f1 g.1 m.1, .f1t hg g.2 hs m.2⟩ else none
    | _ => none)
  | _ => none
noncomputable def cCallA (f : RecE) (ce : CE) (cap : Bool) (o : Expr) (meth : Str) (apos : Pos) (args : List Expr) (p : Pos) : RJ (.ex ce cap (.Call (.Attribute o meth apos) args [] p)) :=
  if hl : (apos.endLine == p.line) = true then if hb : Jb o = false then (match args with
    | [a] => if hs : Ai a = true then if hm : meth = ("count" : Str) then (cPl f ce o).bind fun x => (f ce false a).map fun y => ⟨.count x.1 y.1, .count hm hl hb hs x.2 y.2⟩
      else if hm : meth = ("join" : Str) then (f ce false o).bind fun x => (f ce false a).map fun y => ⟨.join x.1 y.1, .join hm hl hb hs x.2 y.2⟩ else none else none
    | _ => none) else none else none
noncomputable def itOf (f : RecE) (ce : CE) (cap : Bool) (tg e : Expr) : RJ (.it ce cap tg e) := if hp : plainIt e = true then (f ce cap e).map fun m => ⟨m.1, .of hp m.2⟩ else none
noncomputable def cIt (f : RecE) (ce : CE) (cap : Bool) (tg e : Expr) : RJ (.it ce cap tg e) := match e with
  | .Call (.Name x p') args [] p => (match hg : ce.glob x with
    | some (.ty "range") => (match args with
      | [a] => if hs : Ai a = true then (f ce false a).map fun m => ⟨_, .range1 hg hs m.2⟩ else none
      | [a, b] => if hs : Ai a = true then if hs' : Ai b = true then (f ce false a).bind fun m => (f ce false b).map fun n => ⟨_, .range2 hg hs hs' m.2 n.2⟩ else none else none
      | [a, b, e] => if hs : Ai a = true then if hs' : Ai b = true then if hs'' : Ai e = true then (f ce false a).bind fun m => (f ce false b).bind fun n => (f ce false e).map fun k => ⟨_, .range3 hg hs hs' hs'' m.2 n.2 k.2⟩ else none else none else none
      | _ => none)
    | some (.ty "zip") => (match tg with
      | .Tuple elts kk pos => (match args with
        | [a, b] => if hs : Ai a = true then if hs' : Ai b = true then (f ce cap a).bind fun m => (f ce cap b).map fun n => ⟨_, .zip hg hs hs' m.2 n.2⟩ else none else none
        | _ => none)
      | _ => none)
    | some (.ty "enumerate") => (match tg with
      | .Tuple elts kk pos => (match args with
        | [a] => if hs : Ai a = true then (f ce cap a).map fun m => ⟨_, .enum hg hs m.2⟩ else none
        | _ => none)
      | _ => none)
    | _ => itOf f ce cap tg (.Call (.Name x p') args [] p))
  | e => itOf f ce cap tg e
noncomputable def cTs (f : RecE) (ce : CE) (ifs : List Expr) : RJ (.ts ce ifs) := match ifs with
  | [] => some ⟨_, .tNil⟩
  | [t] => (match t with
    | .Compare l [q₁, q₂] [r₁, r₂] p => (match h₁ : copOf q₁ with
      | some o₁ => (match h₂ : copOf q₂ with
        | some o₂ => if hm : behindInMarks q₂ r₂ = false then (f ce false l).bind fun a => (f ce false r₁).bind fun b => (f ce false r₂).map fun e => ⟨.chain o₁ o₂ a.1 b.1 e.1, .tChain (cop_of h₁).1 (cop_of h₂).1 (cop_of h₁).2 (cop_of h₂).2 hm a.2 b.2 e.2⟩ else none
        | none => none)
      | none => none)
    | t => (f ce false t).map fun m => ⟨m.1, .tOne m.2⟩)
  | _ => none
noncomputable def cComp (f : RecE) (ce : CE) (cap : Bool) (elt tgt iter : Expr) (ifs : List Expr) (scope : Scope) (p : Pos) : RJ (.ex ce cap (.ListComp elt [⟨tgt, iter, ifs, 0⟩] scope p)) :=
  match ht : Bh tgt with
  | some xs => if hsc : Eo ce.scope scope xs = true then (cIt f ce false tgt iter).bind fun mi => (f (Bd ce scope xs) true elt).bind fun me => (cTs f (Bd ce scope xs) ifs).map fun mt => ⟨_, .comp ht hsc mi.2 me.2 mt.2⟩ else none
  | none => none
noncomputable def Ez : Nat → RecE
  | 0, _, _, _ => none
  | n + 1, ce, cap, e => match e with
    | .Constant k kk p => (match k with
      | .none => some ⟨_, .cNone⟩
      | .bool b => some ⟨_, .cBool⟩
      | .int i => some ⟨_, .cInt⟩
      | .str s => if h : s.cps.size ≤ LIM then some ⟨_, .cStr h⟩ else none
      | _ => none)
    | .Name x p => cName ce cap x p
    | .BinOp l op r p => (match ho : bopOf op with
      | some o => (Ez n ce false l).bind fun a => (Ez n ce false r).map fun b => ⟨.bin o a.1 b.1, .bin (bop_of ho) a.2 b.2⟩
      | none => none)
    | .UnaryOp .Not x p => (Ez n ce false x).map fun a => ⟨.not a.1, .not a.2⟩
    | .UnaryOp .USub x p => (Ez n ce false x).map fun a => ⟨.neg a.1, .neg a.2⟩
    | .BoolOp op es p => (cAl (Ez n) ce cap op p es).map fun a => ⟨a.1, .bool a.2⟩
    | .Compare l [op] [r] p => cCmp (Ez n) ce cap l op r p
    | .List es p => (cLi (Ez n) ce es).map fun m => ⟨.list m.1, .list m.2⟩
    | .Tuple es k p => (cLi (Ez n) ce es).map fun m => ⟨.tup m.1, .tup m.2⟩
    | .Subscript v s p => cSub (Ez n) ce cap v s p
    | .Call (.Name x p') args [] p => cCallN (Ez n) ce cap x p' args p
    | .Call (.Attribute o meth apos) args [] p => cCallA (Ez n) ce cap o meth apos args p
    | .ListComp elt [⟨tgt, iter, ifs, 0⟩] scope p => cComp (Ez n) ce cap elt tgt iter ifs scope p
    | _ => none
end Mine
end
section
open PySem PyProof.Rows PySem.SeqAt
namespace Mine
set_option tactic.hygienic false
set_option autoImplicit false
noncomputable def mine (env : Env) (ow : Nat → Option Addr) (b : Addr) : Prop := b = env.locals ∨ (∃ x, env.cells.lookup x = some b) ∨ ∃ i, ow i = some b
theorem ND.kp {fs : List Addr} {h h' : Heap} {a : Addr} (x : ND h a) (k : Kp fs h h') : ND h' a := by
  obtain ⟨o, e, d⟩ := x
  obtain ⟨_, sl, e'⟩ := k a o e
  exact ⟨_, e', d⟩
abbrev Ar (env : Env) (ob : Addr → Prop) (ow : Nat → Option Addr) : Addr → Prop := fun b => ob b ∨ mine env ow b
inductive OwnV (c : Cx) (ce : CE) (env : Env) (bad : Addr → Prop) (ow : Nat → Option Addr) (h : Heap) (i : Nat) (av : AV) : Prop where
  | mk (x : Str) (a : Addr) (e : ce.vm.lookup x = some i) (l : Gz env h x (.ref a)) (o : ow i = some a) (n : ce.ap.contains i = true → ND h a) (d : DenT c h bad av (.ref a))
structure Act (c : Cx) (A : Around) (ce : CE) (env : Env) (ob : Addr → Prop) (σ : St) (ow : Nat → Option Addr) (h : Heap) : Prop where
  ev : EVis c A ce env σ (Ar env ob ow) h
  ns : ∃ m, h.Ns env.locals m
  kinds : ∀ x i, ce.vm.lookup x = some i → env.kindOf x = some .local ∨ (env.kindOf x = some .cell ∧ ∃ a v, env.cells.lookup x = some a ∧ h.IsCell a v)
  inj : ∀ x y i, ce.vm.lookup x = some i → ce.vm.lookup y = some i → x = y
  cells : ∀ x y a, env.cells.lookup x = some a → env.cells.lookup y = some a → x = y
  cellL : ∀ x a, env.cells.lookup x = some a → a ≠ env.locals
  own : ∀ i av, σ[i]? = some (some (true, av)) → OwnV c ce env (Ar env ob ow) ow h i av
  ow1 : ∀ i a, ow i = some a → (∃ av, σ[i]? = some (some (true, av))) ∧ ¬ ob a ∧ a ≠ env.locals ∧ ∀ x, env.cells.lookup x ≠ some a
  ow2 : ∀ i j a, ow i = some a → ow j = some a → i = j
  fsIn : ∀ b ∈ Ac A, ob b ∨ b = env.locals
  obN : ∀ b, (b = env.locals ∨ ∃ x, env.cells.lookup x = some b) → ¬ ob b
  top : (∃ outer, A.frames = some (env :: outer)) ∧ env.frame = some env.locals
structure Rel (fs : List Addr) (mi mi' : Addr → Prop) (h h' : Heap) : Prop where
  keep : ∀ b o, ¬ mi b → h.get? b = some o → (b ∉ fs → h'.get? b = some o) ∧ ∃ sl, h'.get? b = some { o with slots := sl }
  nb : ∀ b, ¬ mi b → h.get? b ≠ none → ¬ mi' b
  dom : ∀ b, h.get? b ≠ none → h'.get? b ≠ none
inductive RelS (fs : List Addr) (mi mi' : Addr → Prop) (s s' : Shared) : Prop where
  | mk0 (h' : Heap) (tk : Nat) (e : s' = { s with heap := h', toks := tk }) (r : Rel fs mi mi' s.heap h')
section
variable {fs : List Addr} {mi mi' mi'' : Addr → Prop} {h h' h'' : Heap} {s s' s'' : Shared}
theorem Rel.trans (x : Rel fs mi mi' h h') (y : Rel fs mi' mi'' h' h'') : Rel fs mi mi'' h h'' where
  keep := fun b o hb e => by
    have n := x.nb b hb (by first | exact nn (e) | (rw [e]; simp))
    obtain ⟨x1, sl, x2⟩ := x.keep b o hb e
    obtain ⟨_, sl', y2⟩ := y.keep b _ n x2
    exact ⟨fun hf => (y.keep b o n (x1 hf)).1 hf, sl', y2⟩
  nb := fun b hb e => y.nb b (x.nb b hb e) (x.dom b e)
  dom := fun b e => y.dom b (x.dom b e)
theorem Rel.kp (k : Kp fs h h') : Rel fs mi mi h h' := ⟨fun b o _ e => k b o e, fun _ hb _ => hb, fun _ e => k.stay e⟩
theorem RelS.refl : RelS fs mi mi s s := ⟨s.heap, s.toks, rfl, Rel.kp (.refl _ _)⟩
theorem RelS.trans (x : RelS fs mi mi' s s') (y : RelS fs mi' mi'' s' s'') : RelS fs mi mi'' s s'' := by
  obtain ⟨h, tk, rfl, k⟩ := x
  obtain ⟨h', tk', rfl, k'⟩ := y
  exact ⟨h', tk', rfl, k.trans k'⟩
theorem RelS.kp (k : KpS fs s s') : RelS fs mi mi s s' := by
  obtain ⟨h, tk, rfl, k⟩ := k
  exact ⟨h, tk, rfl, .kp k⟩
theorem RelS.heap (x : RelS fs mi mi' s s') : Rel fs mi mi' s.heap s'.heap := by
  obtain ⟨h, tk, rfl, k⟩ := x; exact k
theorem Rel.less (hm : ∀ b, mi' b → mi b) : Rel fs mi mi' h h := ⟨fun b o _ e => ⟨fun _ => e, o.slots, e⟩, fun b hb _ q => hb (hm b q), fun _ e => e⟩
end
section
variable {c : Cx} {A : Around} {ce : CE} {env : Env} {ob : Addr → Prop} {σ : St} {ow : Nat → Option Addr} {h h' : Heap}
theorem Act.mineThere (a : Act c A ce env ob σ ow h) {b : Addr} (hb : mine env ow b) : h.get? b ≠ none := a.ev.badD b (.inr hb)
theorem Act.kp (a : Act c A ce env ob σ ow h) (k : Kp (Ac A) h h') : Act c A ce env ob σ ow h' where
  ev := a.ev.kp k
  ns := let ⟨m, n⟩ := a.ns; ⟨m, k.ns n⟩
  kinds := fun x i e => by
    rcases a.kinds x i e with q | ⟨q, ad, v, e1, e2⟩
    · exact .inl q
    · exact .inr ⟨q, ad, v, e1, k.isCell e2⟩
  inj := a.inj
  cells := a.cells
  cellL := a.cellL
  own := fun i av e => by
    obtain ⟨x, ad, e1, l, e2, nd, d⟩ := a.own i av e
    have hn : ad ∉ Ac A := fun q => by
      rcases a.fsIn ad q with q | q
      · exact (a.ow1 i ad e2).2.1 q
      · exact (a.ow1 i ad e2).2.2.1 q
    exact ⟨x, ad, e1, l.kp k, e2, fun z => (nd z).kp k, DenT.carryTop (.kp k a.ev.fsb) _ _ d fun b o q e => by cases q; exact (k _ o e).1 hn⟩
  ow1 := a.ow1
  ow2 := a.ow2
  fsIn := a.fsIn
  obN := a.obN
  top := a.top
theorem Act.kpS {s s' : Shared} (a : Act c A ce env ob σ ow s.heap) (k : KpS (Ac A) s s') : Act c A ce env ob σ ow s'.heap := a.kp k.heap
theorem Act.weaken {ob' : Addr → Prop} (a : Act c A ce env ob' σ ow h) (hb : ∀ b, ob b → ob' b) (hf : ∀ b ∈ Ac A, ob b ∨ b = env.locals) : Act c A ce env ob σ ow h := by
  have hbad : ∀ b, Ar env ob ow b → Ar env ob' ow b := fun b q => q.elim (fun q => .inl (hb b q)) .inr
  have cy : Ex h h (Ar env ob' ow) (Ar env ob ow) := ⟨fun _ _ _ e => e, fun b q _ q' => q (hbad b q')⟩
  exact {
    ev := { a.ev with
      badG := fun b q => a.ev.badG b (hbad b q)
      badD := fun b q => a.ev.badD b (hbad b q)
      fsb := fun b q => (hf b q).elim .inl fun e => .inr (.inl e)
      var := fun x i own av e1 e2 => by
        obtain ⟨v, l, d, n⟩ := a.ev.var x i own av e1 e2
        exact ⟨v, l, ⟨DenT.carryTop cy _ _ d.1 fun _ _ _ e => e, d.2⟩, fun ho ad e q => n ho ad e (hbad ad q)⟩ }
    ns := a.ns
    kinds := a.kinds
    inj := a.inj
    cells := a.cells
    cellL := a.cellL
    own := fun i av e => by
      obtain ⟨x, ad, e1, l, e2, nd, d⟩ := a.own i av e
      exact ⟨x, ad, e1, l, e2, nd, DenT.carryTop cy _ _ d fun _ _ _ e => e⟩
    ow1 := fun i ad e => let ⟨h1, h2, h3⟩ := a.ow1 i ad e; ⟨h1, fun q => h2 (hb ad q), h3⟩
    ow2 := a.ow2
    fsIn := hf
    obN := fun b q q' => a.obN b q (hb b q')
    top := a.top }
theorem Act.more {h₁ : Heap} {ob' : Addr → Prop} (a : Act c A ce env ob σ ow h₁) (k : Kp (Ac A) h₁ h) (hb : ∀ b, ob b → ob' b) (hn : ∀ b, ob' b → h₁.get? b ≠ none → ob b) (hd : ∀ b, ob' b → h.get? b ≠ none) : Act c A ce env ob' σ ow h := by
  have hbad : ∀ b, Ar env ob ow b → Ar env ob' ow b := fun b q => q.elim (fun q => .inl (hb b q)) .inr
  have hback : ∀ b, h₁.get? b ≠ none → Ar env ob' ow b → Ar env ob ow b := fun b e q => q.elim (fun q => .inl (hn b q e)) .inr
  have cy : Ex h₁ h (Ar env ob ow) (Ar env ob' ow) := ⟨fun b o hb' e => (k b o e).1 fun q => hb' (a.ev.fsb b q), fun b q e q' => q (hback b e q')⟩
  have a' := a.kp k
  exact {
    ev := { a'.ev with
      badG := fun b q => by
        cases e : c.hG.get? b with
        | none => rfl
        | some o => rw [← e]; exact a.ev.badG b (hback b (by first | exact nn (a.ev.ground b o e) | (rw [a.ev.ground b o e]; simp)) q)
      badD := fun b q => q.elim (hd b) fun q => a'.ev.badD b (.inr q)
      fsb := fun b q => hbad b (a.ev.fsb b q)
      var := fun x i own av e1 e2 => by
        obtain ⟨v, l, d, n⟩ := a.ev.var x i own av e1 e2
        have top : ∀ ad, v = .ref ad → h₁.get? ad ≠ none := fun ad e => by subst e; exact DenT.there av ad d.1
        exact ⟨v, l.kp k, ⟨DenT.carryTop cy _ _ d.1 fun ad o e q => (k ad o q).1 (d.2 ad e), d.2⟩, fun ho ad e q => n ho ad e (hback ad (top ad e) q)⟩ }
    ns := a'.ns
    kinds := a'.kinds
    inj := a.inj
    cells := a.cells
    cellL := a.cellL
    own := fun i av e => by
      obtain ⟨x, ad, e1, l, e2, nd, d⟩ := a.own i av e
      have hnf : ad ∉ Ac A := fun q => by
        rcases a.fsIn ad q with q | q
        · exact (a.ow1 i ad e2).2.1 q
        · exact (a.ow1 i ad e2).2.2.1 q
      exact ⟨x, ad, e1, l.kp k, e2, fun z => (nd z).kp k, DenT.carryTop cy _ _ d fun b o q e => by cases q; exact (k _ o e).1 hnf⟩
    ow1 := fun i ad e => let ⟨h1, h2, h3⟩ := a.ow1 i ad e; ⟨h1, fun q => h2 (hn ad q (a.mineThere (.inr (.inr ⟨i, e⟩)))), h3⟩
    ow2 := a.ow2
    fsIn := fun b q => (a.fsIn b q).imp (hb b) id
    obN := fun b q q' => a.obN b q (hn b q' (a.mineThere (q.elim .inl fun q => .inr (.inl q))))
    top := a.top }
noncomputable def Gx (ow : Nat → Option Addr) (i : Nat) : Nat → Option Addr := fun j => if j = i then none else ow j
theorem owFree_less {ow : Nat → Option Addr} {i : Nat} : ∀ b, mine env (Gx ow i) b → mine env ow b := fun b q => by
  rcases q with q | q | ⟨j, q⟩
  · exact .inl q
  · exact .inr (.inl q)
  · unfold Gx at q; split at q
    · cases q
    · exact .inr (.inr ⟨j, q⟩)
set_option tactic.hygienic true in
theorem freeze_get {σ : St} {i j : Nat} {own : Bool} {av : AV} (e : (freeze σ i)[j]? = some (some (own, av))) : ∃ own', σ[j]? = some (some (own', av)) ∧ (j = i → own = false) ∧ (j ≠ i → own = own') := by
  unfold freeze at e
  split at e
  · rename_i o v q
    rw [List.getElem?_set] at e
    split at e
    · rename_i hji; subst hji
      split at e
      · cases e; exact ⟨o, q, fun _ => rfl, fun h => absurd rfl h⟩
      · cases e
    · rename_i hji
      exact ⟨own, e, fun h => absurd h.symm hji, fun _ => rfl⟩
  · rename_i q
    refine ⟨own, e, fun hji => ?_, fun _ => rfl⟩
    subst hji
    exact absurd e (q _ _)
theorem freeze_length {σ : St} {i : Nat} : (freeze σ i).length = σ.length := by
  unfold freeze; split <;> simp
set_option tactic.hygienic true in
theorem Act.freeze (a : Act c A ce env ob σ ow h) (i : Nat) : Act c A ce env ob (freeze σ i) (Gx ow i) h := by
  have hbad : ∀ b, Ar env ob (Gx ow i) b → Ar env ob ow b := fun b q => q.imp id (owFree_less b)
  have cy : Ex h h (Ar env ob ow) (Ar env ob (Gx ow i)) := ⟨fun _ _ _ e => e, fun b q _ q' => q (hbad b q')⟩
  have clean : ∀ ad, ow i = some ad → ¬ Ar env ob (Gx ow i) ad := fun ad e q => by
    obtain ⟨_, h2, h3, h4⟩ := a.ow1 i ad e
    rcases q with q | q | ⟨x, q⟩ | ⟨j, q⟩
    · exact h2 q
    · exact h3 q
    · exact h4 x q
    · unfold Gx at q; split at q
      · cases q
      · rename_i hne; exact hne (a.ow2 j i ad q e)
  exact {
    ev := { a.ev with
      badG := fun b q => a.ev.badG b (hbad b q)
      badD := fun b q => a.ev.badD b (hbad b q)
      fsb := fun b q => (a.fsIn b q).elim .inl fun e => .inr (.inl e)
      n := by rw [freeze_length]; exact a.ev.n
      var := fun x j own av e1 e2 => by
        obtain ⟨own', e3, e4, e5⟩ := freeze_get e2
        by_cases hj : j = i
        · subst hj
          cases own' with
          | false =>
            obtain ⟨v, l, d, n⟩ := a.ev.var x j false av e1 e3
            exact ⟨v, l, ⟨DenT.carryTop cy _ _ d.1 fun _ _ _ e => e, d.2⟩, fun ho ad e q => n rfl ad e (hbad ad q)⟩
          | true =>
            obtain ⟨y, ad, f1, l, f2, nd, d⟩ := a.own j av e3
            have : x = y := a.inj x y j e1 f1
            subst this
            refine ⟨.ref ad, l, ⟨DenT.carryTop cy _ _ d fun _ _ _ e => e, fun b e q => ?_⟩, fun _ b e q => ?_⟩
            · cases e
              rcases a.fsIn _ q with q | q
              · exact (a.ow1 j _ f2).2.1 q
              · exact (a.ow1 j _ f2).2.2.1 q
            · cases e; exact clean _ f2 q
        · have := e5 hj; subst this
          obtain ⟨v, l, d, n⟩ := a.ev.var x j own av e1 e3
          exact ⟨v, l, ⟨DenT.carryTop cy _ _ d.1 fun _ _ _ e => e, d.2⟩, fun ho ad e q => n ho ad e (hbad ad q)⟩ }
    ns := a.ns
    kinds := a.kinds
    inj := a.inj
    cells := a.cells
    cellL := a.cellL
    own := fun j av e => by
      obtain ⟨own', e3, e4, e5⟩ := freeze_get e
      have hj : j ≠ i := fun q => by have := e4 q; cases this
      have := e5 hj; subst this
      obtain ⟨x, ad, e1, l, e2, nd, d⟩ := a.own j av e3
      exact ⟨x, ad, e1, l, by unfold Gx; rw [if_neg hj]; exact e2, nd, DenT.carryTop cy _ _ d fun _ _ _ e => e⟩
    ow1 := fun j ad e => by
      unfold Gx at e
      split at e
      · cases e
      · rename_i hj
        obtain ⟨⟨av, h1⟩, h2⟩ := a.ow1 j ad e
        refine ⟨⟨av, ?_⟩, h2⟩
        unfold Mine.freeze
        split
        · rw [List.getElem?_set_ne (fun q => hj q.symm)]; exact h1
        · exact h1
    ow2 := fun j k ad e1 e2 => by
      unfold Gx at e1 e2
      split at e1
      · cases e1
      · split at e2
        · cases e2
        · exact a.ow2 j k ad e1 e2
    fsIn := a.fsIn
    obN := a.obN
    top := a.top }
end
end Mine
end
section
open PySem PyProof.Rows PySem.SeqAt
namespace Mine
set_option tactic.hygienic false
set_option autoImplicit false
mutual
noncomputable def sz : AV → Nat
  | .ilist xs => 1 + xs.length
  | .plist xs => 1 + xs.length
  | .list xs => 1 + szs xs
  | .tup xs => 1 + szs xs
  | _ => 1
noncomputable def szs : List AV → Nat
  | [] => 0
  | x :: r => sz x + szs r
end
section
variable {c : Cx} {h : Heap} {bad bad' : Addr → Prop}
theorem Fc {h : Heap} {a : Addr} {vs ws : List Value} (x : h.IsList a vs.toArray) (y : h.IsList a ws.toArray) : vs = ws := by
  obtain ⟨o, ho, _, n, hd⟩ := x
  obtain ⟨o', ho', _, n', hd'⟩ := y
  rw [ho] at ho'; cases ho'
  rw [hd] at hd'
  injection hd' with e _
  exact List.toArray_inj e
theorem isTuple_unique {h : Heap} {a : Addr} {vs ws : List Value} (x : h.IsTuple a vs.toArray) (y : h.IsTuple a ws.toArray) : vs = ws := by
  obtain ⟨o, ho, _, n, hd⟩ := x
  obtain ⟨o', ho', _, n', hd'⟩ := y
  rw [ho] at ho'; cases ho'
  rw [hd] at hd'
  injection hd' with e _
  exact List.toArray_inj e
theorem Fh {h : Heap} {a : Addr} {vs ws : List Value} (x : h.IsList a vs.toArray) (y : h.IsTuple a ws.toArray) : False := by
  obtain ⟨o, ho, hc, _⟩ := x
  obtain ⟨o', ho', hc', _⟩ := y
  rw [ho] at ho'; cases ho'
  rw [hc] at hc'
  exact absurd hc' (by decide)
theorem szI : ∀ {xs : List Int} {ys : List AV} {vs : List Value}, DenI xs vs → DenL c h bad ys vs → szs ys = xs.length
  | [], ys, vs, hx, hy => by
    simp only [DenI] at hx; subst hx
    cases ys with
    | nil => rfl
    | cons y r => simp only [DenL] at hy; obtain ⟨_, _, e, _, _⟩ := hy; cases e
  | x :: r, ys, vs, hx, hy => by
    simp only [DenI] at hx
    obtain ⟨t, w, rfl, hr⟩ := hx
    cases ys with
    | nil => simp [DenL] at hy
    | cons y q =>
      simp only [DenL] at hy
      obtain ⟨v, t', e, ⟨hd, _⟩, hr'⟩ := hy
      cases e
      have : sz y = 1 := by
        cases y <;> simp only [DenT] at hd <;> first | rfl | (obtain ⟨a, vs, e, _⟩ := hd; cases e)
      simp only [szs, this, szI hr hr', List.length_cons]; exact Nat.add_comm _ _
theorem Jh {y : AV} {a : Addr} (hy : DenT c h bad y (.ref a)) :
    (∃ xs vs, sz y = 1 + List.length xs ∧ h.IsList a (List.toArray vs) ∧ DenI xs vs) ∨ (∃ xs vs, y = .list xs ∧ h.IsList a (List.toArray vs) ∧ DenL c h bad xs vs) ∨
    (∃ xs vs, y = .tup xs ∧ h.IsTuple a (List.toArray vs) ∧ DenL c h bad xs vs) := by
  cases y with
  | none => simp [DenT] at hy
  | bool b => simp [DenT] at hy
  | int i => simp [DenT] at hy
  | str s => simp [DenT] at hy
  | ilist xs => simp only [DenT] at hy; obtain ⟨_, vs, e, hl, _, hd⟩ := hy; cases e; exact .inl ⟨_, vs, rfl, hl, hd⟩
  | list xs => simp only [DenT] at hy; obtain ⟨_, vs, e, hl, _, hd⟩ := hy; cases e; exact .inr (.inl ⟨_, vs, rfl, hl, hd⟩)
  | tup xs => simp only [DenT] at hy; obtain ⟨_, vs, e, hl, _, hd⟩ := hy; cases e; exact .inr (.inr ⟨_, vs, rfl, hl, hd⟩)
  | plist xs => simp only [DenT] at hy; obtain ⟨_, vs, e, hl, _, hd⟩ := hy; cases e; exact .inl ⟨_, vs, rfl, hl.1, hd⟩
theorem noref_sz {y : AV} {v : Value} (hv : ∀ a, v ≠ .ref a) (hy : DenT c h bad y v) : sz y = 1 := by
  cases y with
  | ilist xs => simp only [DenT] at hy; obtain ⟨a, vs, e, _⟩ := hy; exact absurd e (hv a)
  | list xs => simp only [DenT] at hy; obtain ⟨a, vs, e, _⟩ := hy; exact absurd e (hv a)
  | tup xs => simp only [DenT] at hy; obtain ⟨a, vs, e, _⟩ := hy; exact absurd e (hv a)
  | plist xs => simp only [DenT] at hy; obtain ⟨a, vs, e, _⟩ := hy; exact absurd e (hv a)
  | _ => rfl
mutual
theorem sz_eq : ∀ (x y : AV) (v : Value), DenT c h bad x v → DenT c h bad' y v → sz x = sz y
  | .none, y, v, hx, hy => by
    simp only [DenT] at hx; subst hx
    rw [noref_sz (by intro a e; cases e) hy]; rfl
  | .bool b, y, v, hx, hy => by
    simp only [DenT] at hx; subst hx
    rw [noref_sz (by intro a e; cases e) hy]; rfl
  | .int i, y, v, hx, hy => by
    simp only [DenT] at hx; obtain ⟨t, rfl⟩ := hx
    rw [noref_sz (by intro a e; cases e) hy]; rfl
  | .str s, y, v, hx, hy => by
    simp only [DenT] at hx; obtain ⟨_, t, rfl⟩ := hx
    rw [noref_sz (by intro a e; cases e) hy]; rfl
  | .ilist xs, y, v, hx, hy => by
    simp only [DenT] at hx; obtain ⟨a, vs, rfl, hl, _, hd⟩ := hx
    rcases Jh hy with ⟨ys, ws, e, hl', hd'⟩ | ⟨ys, ws, rfl, hl', hd'⟩ | ⟨ys, ws, rfl, hl', hd'⟩
    · have := Fc hl hl'; subst this
      rw [e]; simp only [sz]; rw [← hd.length, ← hd'.length]
    · have := Fc hl hl'; subst this
      simp only [sz]; rw [szI hd hd']
    · exact (Fh hl hl').elim
  | .plist xs, y, v, hx, hy => by
    simp only [DenT] at hx; obtain ⟨a, vs, rfl, ⟨hl, _⟩, _, hd⟩ := hx
    rcases Jh hy with ⟨ys, ws, e, hl', hd'⟩ | ⟨ys, ws, rfl, hl', hd'⟩ | ⟨ys, ws, rfl, hl', hd'⟩
    · have := Fc hl hl'; subst this
      rw [e]; simp only [sz]; rw [← hd.length, ← hd'.length]
    · have := Fc hl hl'; subst this
      simp only [sz]; rw [szI hd hd']
    · exact (Fh hl hl').elim
  | .list xs, y, v, hx, hy => by
    simp only [DenT] at hx; obtain ⟨a, vs, rfl, hl, _, hd⟩ := hx
    rcases Jh hy with ⟨ys, ws, e, hl', hd'⟩ | ⟨ys, ws, rfl, hl', hd'⟩ | ⟨ys, ws, rfl, hl', hd'⟩
    · have := Fc hl hl'; subst this
      rw [e]; simp only [sz]; rw [szI hd' hd]
    · have := Fc hl hl'; subst this
      simp only [sz]; rw [szs_eq xs _ vs hd hd']
    · exact (Fh hl hl').elim
  | .tup xs, y, v, hx, hy => by
    simp only [DenT] at hx; obtain ⟨a, vs, rfl, hl, _, hd⟩ := hx
    rcases Jh hy with ⟨ys, ws, e, hl', hd'⟩ | ⟨ys, ws, rfl, hl', hd'⟩ | ⟨ys, ws, rfl, hl', hd'⟩
    · exact (Fh hl' hl).elim
    · exact (Fh hl' hl).elim
    · have := isTuple_unique hl hl'; subst this
      simp only [sz]; rw [szs_eq xs _ vs hd hd']
theorem szs_eq : ∀ (xs ys : List AV) (vs : List Value), DenL c h bad xs vs → DenL c h bad' ys vs → szs xs = szs ys
  | [], ys, vs, hx, hy => by
    simp only [DenL] at hx; subst hx
    cases ys with
    | nil => rfl
    | cons y r => simp only [DenL] at hy; obtain ⟨_, _, e, _, _⟩ := hy; cases e
  | x :: r, ys, vs, hx, hy => by
    simp only [DenL] at hx
    obtain ⟨v, t, rfl, ⟨hd, _⟩, hr⟩ := hx
    cases ys with
    | nil => simp [DenL] at hy
    | cons y q =>
      simp only [DenL] at hy
      obtain ⟨v', t', e, ⟨hd', _⟩, hr'⟩ := hy
      cases e
      simp only [szs]; rw [sz_eq x y v hd hd', szs_eq r q t hr hr']
end
mutual
theorem den_but {a : Addr} {n : Nat} (hn : ∀ y, DenT c h bad y (.ref a) → sz y = n) : ∀ (x : AV) (v : Value), sz x ≤ n → DenT c h bad x v → DenT c h (fun b => bad b ∨ b = a) x v
  | .none, _, _, e => by simpa only [DenT] using e
  | .bool b, _, _, e => by simpa only [DenT] using e
  | .int i, _, _, e => by simpa only [DenT] using e
  | .str x, _, _, e => by simpa only [DenT] using e
  | .ilist xs, v, _, e => by simpa only [DenT] using e
  | .list xs, v, hs, e => by
    simp only [DenT] at e ⊢
    obtain ⟨p, vs, rfl, hl, hz, hd⟩ := e
    exact ⟨p, vs, rfl, hl, hz, den_buts hn xs vs (by simp only [sz] at hs; lia) hd⟩
  | .tup xs, v, hs, e => by
    simp only [DenT] at e ⊢
    obtain ⟨p, vs, rfl, hl, hz, hd⟩ := e
    exact ⟨p, vs, rfl, hl, hz, den_buts hn xs vs (by simp only [sz] at hs; lia) hd⟩
  | .plist xs, v, _, e => by simpa only [DenT] using e
theorem den_buts {a : Addr} {n : Nat} (hn : ∀ y, DenT c h bad y (.ref a) → sz y = n) : ∀ (xs : List AV) (vs : List Value), szs xs < n → DenL c h bad xs vs → DenL c h (fun b => bad b ∨ b = a) xs vs
  | [], vs, _, e => by simpa only [DenL] using e
  | x :: r, vs, hs, e => by
    simp only [DenL] at e ⊢
    obtain ⟨v, t, rfl, ⟨hd, hb⟩, hr⟩ := e
    simp only [szs] at hs
    refine ⟨v, t, rfl, ⟨den_but hn x v (by lia) hd, fun b e q => ?_⟩, den_buts hn r t (by lia) hr⟩
    rcases q with q | rfl
    · exact hb b e q
    · subst e; have := hn x hd; lia
end
theorem den_self {x : AV} {a : Addr} (d : DenT c h bad x (.ref a)) : DenT c h (fun b => bad b ∨ b = a) x (.ref a) :=
  den_but (n := sz x) (fun y hy => sz_eq y x _ hy d) x _ (Nat.le_refl _) d
end
end Mine
end
section
open PySem PyProof.Rows PySem.SeqAt
namespace Mine
set_option tactic.hygienic false
set_option autoImplicit false
structure Put (ce : CE) (env : Env) (h h' : Heap) (x : Str) (v : Value) : Prop where
  at' : ∃ t, (t = env.locals ∨ ∃ y, env.cells.lookup y = some t) ∧ (∀ b o, b ≠ t → h.get? b = some o → h'.get? b = some o) ∧ h'.get? t ≠ none
  here : Gz env h' x v
  there : ∀ y i u, y ≠ x → ce.vm.lookup y = some i → Gz env h y u → Gz env h' y u
  ns : ∃ m, h'.Ns env.locals m
  cell : ∀ y a u, env.cells.lookup y = some a → h.IsCell a u → ∃ u', h'.IsCell a u'
section
variable {c : Cx} {A : Around} {ce : CE} {env : Env} {ob : Addr → Prop} {σ : St} {ow : Nat → Option Addr} {h h₁ h' : Heap}
theorem Gq {M : Model} {A' : Around} {E : Value → Shared → Prop} {s : Shared} {x : Str} {i : Nat} {v : Value} {Q : Unit → Shared → Prop} (a : Act c A ce env ob σ ow s.heap) (hx : ce.vm.lookup x = some i) (hQ : ∀ h' tk, Put ce env s.heap h' x v → Q () { s with heap := h', toks := tk }) :
    wpAny M A' (storeName env x v) Q E s := by
  obtain ⟨m, hn⟩ := a.ns
  rcases a.kinds x i hx with hk | ⟨hk, ad, u, hc, hv⟩
  · refine wpAny_storeName_local hk hn (fun h' hn' hs => ?_) (by rw [a.ev.kind]; rfl)
    refine hQ h' _ ⟨⟨_, .inl rfl, fun b o hb e => hs.extBut b o hb e, ?_⟩, .inl ⟨hk, _, hn', by simp⟩, fun y j u hy hj l => ?_, ⟨_, hn'⟩, fun y ad u hy ic => ?_⟩
    · obtain ⟨o, _, _, e, _⟩ := hn'; rw [e]; simp
    · rcases l with ⟨e, m₂, n₂, q⟩ | ⟨e, ad, q, ic⟩
      · have : m₂ y = m y := by
          obtain ⟨o, es, ep, e1, e2, e3⟩ := n₂
          obtain ⟨o', es', ep', f1, f2, f3⟩ := hn
          rw [e1] at f1; cases f1
          rw [e2] at f2; cases f2
          rw [← e3.2 y, f3.2 y]
        exact .inl ⟨e, _, hn', by rw [if_neg hy, ← this]; exact q⟩
      · obtain ⟨o, e1, e2⟩ := ic
        exact .inr ⟨e, ad, q, o, hs.extBut ad o (a.cellL y ad q) e1, e2⟩
    · obtain ⟨o, e1, e2⟩ := ic
      exact ⟨u, o, hs.extBut ad o (a.cellL y ad hy) e1, e2⟩
  · refine wpAny_storeName_cell a.ev.kind hk hc hv fun h' ic hs => ?_
    have hn' : h'.Ns env.locals m := hn.sameBut hs (fun q => a.cellL x ad hc q.symm)
    refine hQ h' _ ⟨⟨ad, .inr ⟨x, hc⟩, fun b o hb e => hs.extBut b o hb e, ?_⟩, .inr ⟨hk, ad, hc, ic⟩, fun y j w hy hj l => ?_, ⟨m, hn'⟩, fun y ad' w hy ic' => ?_⟩
    · obtain ⟨o, e, _⟩ := ic; rw [e]; simp
    · rcases l with ⟨e, m₂, n₂, q⟩ | ⟨e, ad', q, ic'⟩
      · exact .inl ⟨e, m₂, n₂.sameBut hs (fun q => a.cellL x ad hc q.symm), q⟩
      · obtain ⟨o, e1, e2⟩ := ic'
        exact .inr ⟨e, ad', q, o, hs.extBut ad' o (fun z => hy (a.cells y x ad (z ▸ q) hc)) e1, e2⟩
    · by_cases hz : ad' = ad
      · subst hz; exact ⟨_, ic⟩
      · obtain ⟨o, e1, e2⟩ := ic'
        exact ⟨w, o, hs.extBut ad' o hz e1, e2⟩
noncomputable def Fk (ow : Nat → Option Addr) (i : Nat) (a : Option Addr) : Nat → Option Addr := fun j => if j = i then a else ow j
set_option tactic.hygienic true in
theorem Act.put' {ob' : Addr → Prop} {x : Str} {i : Nat} {v : Value} {av : AV} {own : Bool} {na : Option Addr} (a : Act c A ce env ob σ ow h) (k : Kp (Ac A) h h₁) (p : Put ce env h₁ h' x v) (hx : ce.vm.lookup x = some i)
    (hb : ∀ b, ob b → ob' b) (hn : ∀ b, ob' b → h.get? b ≠ none → ob b) (hd : ∀ b, ob' b → h₁.get? b ≠ none)
    (d : DenT c h₁ (Ar env ob' ow) av v) (hf : ∀ b, v = .ref b → b ∉ Ac A) (hs : own = false → na = none ∧ ∀ b, v = .ref b → ¬ Ar env ob' ow b) (ho : own = true → ∃ b, na = some b ∧ v = .ref b ∧ h.get? b = none ∧ ¬ ob' b) (hnd : own = true → ce.ap.contains i = true → ∀ b, v = .ref b → ND h₁ b) :
    Act c A ce env ob' (σ.set i (some (own, av))) (Fk ow i na) h' ∧ Rel (Ac A) (mine env ow) (mine env (Fk ow i na)) h h' := by
  have a₁ := a.kp k
  obtain ⟨t, ht, hk, htd⟩ := p.at'
  have tbad : mine env ow t := ht.elim .inl fun q => .inr (.inl q)
  have na_none : ∀ b, na = some b → h.get? b = none := fun b e => by
    cases own with
    | false => rw [(hs rfl).1] at e; cases e
    | true => obtain ⟨b', e1, e2, e3, _⟩ := ho rfl; rw [e1] at e; cases e; exact e3
  have mback : ∀ b, h.get? b ≠ none → mine env (Fk ow i na) b → mine env ow b := fun b e q => by
    rcases q with q | q | ⟨j, q⟩
    · exact .inl q
    · exact .inr (.inl q)
    · unfold Fk at q; split at q
      · exact absurd (na_none b q) e
      · exact .inr (.inr ⟨j, q⟩)
  have hback : ∀ b, h.get? b ≠ none → Ar env ob' (Fk ow i na) b → Ar env ob ow b := fun b e q => q.imp (fun q => hn b q e) (mback b e)
  have kept : ∀ b o, b ≠ t → h₁.get? b = some o → h'.get? b = some o := hk
  have dom₁ : ∀ b, h₁.get? b ≠ none → h'.get? b ≠ none := fun b e => by
    by_cases hb : b = t
    · subst hb; exact htd
    · exact Fx e fun o q => ⟨_, kept b o hb q⟩
  have cy : Ex h h' (Ar env ob ow) (Ar env ob' (Fk ow i na)) := ⟨fun b o hb e => kept b o (fun q => hb (.inr (q ▸ tbad))) ((k b o e).1 fun q => hb (a.ev.fsb b q)), fun b hb e q => hb (hback b e q)⟩
  -- the new value
  have dv : DenT c h' (Ar env ob' (Fk ow i na)) av v := by
    cases own with
    | false =>
      obtain ⟨hna, hnb⟩ := hs rfl
      have less : ∀ b, Ar env ob' (Fk ow i na) b → Ar env ob' ow b := fun b q => by
        rcases q with q | q | q | ⟨j, q⟩
        · exact .inl q
        · exact .inr (.inl q)
        · exact .inr (.inr (.inl q))
        · unfold Fk at q; split at q
          · rw [hna] at q; cases q
          · exact .inr (.inr (.inr ⟨j, q⟩))
      exact DenT.carryTop ⟨fun b o hb e => kept b o (fun q => hb (.inr (q ▸ tbad))) e, fun b hb _ q => hb (less b q)⟩ _ _ d fun b o e q => kept b o (fun z => hnb b e (.inr (z ▸ tbad))) q
    | true =>
      obtain ⟨b₀, hna, rfl, hfresh, _⟩ := ho rfl
      have more : ∀ b, Ar env ob' (Fk ow i na) b → Ar env ob' ow b ∨ b = b₀ := fun b q => by
        rcases q with q | q | q | ⟨j, q⟩
        · exact .inl (.inl q)
        · exact .inl (.inr (.inl q))
        · exact .inl (.inr (.inr (.inl q)))
        · unfold Fk at q; split at q
          · rw [hna] at q; cases q; exact .inr rfl
          · exact .inl (.inr (.inr (.inr ⟨j, q⟩)))
      refine DenT.carryTop ⟨fun b o hb e => kept b o (fun q => hb (.inl (.inr (q ▸ tbad)))) e, fun b hb _ q => hb (more b q)⟩ _ _ (den_self d) fun b o e q => ?_
      cases e
      exact kept _ o (fun z => a.mineThere tbad (z ▸ hfresh)) q
  have other : ∀ j own' av', j ≠ i → (σ.set i (some (own, av)))[j]? = some (some (own', av')) → σ[j]? = some (some (own', av')) := fun j own' av' hj e => by
    rw [List.getElem?_set_ne (fun q => hj q.symm)] at e; exact e
  have same : ∀ own' av', (σ.set i (some (own, av)))[i]? = some (some (own', av')) → own' = own ∧ av' = av := fun own' av' e => by
    rw [List.getElem?_set] at e
    simp only [if_true] at e
    split at e <;> cases e
    exact ⟨rfl, rfl⟩
  have ownJ : ∀ j av', j ≠ i → σ[j]? = some (some (true, av')) → ∃ y ad, ce.vm.lookup y = some j ∧ Gz env h' y (.ref ad) ∧ Fk ow i na j = some ad ∧ (ce.ap.contains j = true → ND h' ad) ∧ DenT c h' (Ar env ob' (Fk ow i na)) av' (.ref ad) ∧ ad ∉ Ac A := fun j av' hj e => by
    obtain ⟨y, ad, e1, l, e2, nd, dd⟩ := a.own j av' e
    have hyx : y ≠ x := fun q => by subst q; rw [hx] at e1; cases e1; exact hj rfl
    obtain ⟨_, o1, o2, o3⟩ := a.ow1 j ad e2
    have hnf : ad ∉ Ac A := fun q => (a.fsIn ad q).elim o1 o2
    have hadt : ad ≠ t := fun z => by rcases ht with ht | ⟨y', ht⟩; exact o2 (z.trans ht); exact o3 y' (z ▸ ht)
    refine ⟨y, ad, e1, p.there y j _ hyx e1 (l.kp k), by unfold Fk; rw [if_neg hj]; exact e2, fun z => ((nd z).kp k).at fun o q => kept ad o hadt q, DenT.carryTop cy _ _ dd fun b o e q => ?_, hnf⟩
    cases e
    exact kept _ o hadt ((k _ o q).1 hnf)
  refine ⟨?_, ?_⟩
  · exact {
      ev := {
        kind := a.ev.kind
        globs := a.ev.globs
        blts := a.ev.blts
        gk := a.ev.gk
        ck := a.ev.ck
        ground := fun b o e => kept b o (fun q => by first | exact (nN (a.ev.badG b (.inr (q ▸ tbad))) e).elim | (rw [a.ev.badG b (.inr (q ▸ tbad))] at e; cases e)) (a₁.ev.ground b o e)
        badG := fun b q => by
          cases e : c.hG.get? b with
          | none => rfl
          | some o => rw [← e]; exact a.ev.badG b (hback b (by first | exact nn (a.ev.ground b o e) | (rw [a.ev.ground b o e]; simp)) q)
        badD := fun b q => by
          rcases q with q | q | q | ⟨j, q⟩
          · exact dom₁ b (hd b q)
          · exact dom₁ b (a₁.ev.badD b (.inr (.inl q)))
          · exact dom₁ b (a₁.ev.badD b (.inr (.inr (.inl q))))
          · unfold Fk at q; split at q
            · cases own with
              | false => rw [(hs rfl).1] at q; cases q
              | true =>
                obtain ⟨b', e1, e2, e3, _⟩ := ho rfl
                rw [e1] at q; cases q
                exact DenT.there av b (e2 ▸ dv)
            · exact dom₁ b (a₁.ev.badD b (.inr (.inr (.inr ⟨j, q⟩))))
        fsb := fun b q => (a.fsIn b q).elim (fun q => .inl (hb b q)) fun e => .inr (.inl e)
        fr := fun l hl e he => by
          obtain ⟨f1, L, o, f2, f3, f4⟩ := a₁.ev.fr l hl e he
          by_cases hL : L = t
          · rcases ht with ht | ⟨y, ht⟩
            · obtain ⟨m, o', es, ep, g1, g2, g3⟩ := p.ns
              exact ⟨f1, L, o', f2, by rw [hL, ht]; exact g1, fun vs q => by first | exact (nN (g2) q).elim | (rw [g2] at q; cases q)⟩
            · exfalso
              have hin : L ∈ Ac A := by
                unfold Ac; rw [hl]; exact List.mem_filterMap.mpr ⟨e, he, f2⟩
              rcases a.fsIn L hin with q | q
              · exact a.obN L (.inr ⟨y, hL ▸ ht⟩) q
              · exact a.cellL y L (hL ▸ ht) q
          · exact ⟨f1, L, o, f2, kept L o hL f3, f4⟩
        n := by rw [List.length_set]; exact a.ev.n
        gt := a.ev.gt
        vb := a.ev.vb
        var := fun y j own' av' e1 e2 => by
          by_cases hj : j = i
          · subst hj
            have hyx : y = x := a.inj y x j e1 hx
            subst hyx
            obtain ⟨rfl, rfl⟩ := same _ _ e2
            refine ⟨v, p.here, ⟨dv, hf⟩, fun hfalse b e q => ?_⟩
            obtain ⟨hna, hnb⟩ := hs hfalse
            refine hnb b e ?_
            rcases q with q | q | q | ⟨j', q⟩
            · exact .inl q
            · exact .inr (.inl q)
            · exact .inr (.inr (.inl q))
            · unfold Fk at q; split at q
              · rw [hna] at q; cases q
              · exact .inr (.inr (.inr ⟨j', q⟩))
          · have e3 := other j own' av' hj e2
            have hyx : y ≠ x := fun q => by subst q; rw [hx] at e1; cases e1; exact hj rfl
            cases own' with
            | false =>
              obtain ⟨u, l, dd, n⟩ := a.ev.var y j false av' e1 e3
              have top : ∀ ad, u = .ref ad → h.get? ad ≠ none := fun ad e => by subst e; exact DenT.there av' ad dd.1
              exact ⟨u, p.there y j _ hyx e1 (l.kp k), ⟨DenT.carryTop cy _ _ dd.1 fun b o e q => kept b o (fun z => n rfl b e (.inr (z ▸ tbad))) ((k b o q).1 (dd.2 b e)), dd.2⟩, fun _ b e q => n rfl b e (hback b (top b e) q)⟩
            | true =>
              obtain ⟨y', ad, f1, l, f2, _, dd, hnf⟩ := ownJ j av' hj e3
              have : y = y' := a.inj y y' j e1 f1
              subst this
              exact ⟨.ref ad, l, ⟨dd, fun b e => by cases e; exact hnf⟩, fun q => by cases q⟩ }
      ns := p.ns
      kinds := fun y j e => by
        rcases a₁.kinds y j e with q | ⟨q, ad, u, e1, e2⟩
        · exact .inl q
        · obtain ⟨u', e3⟩ := p.cell y ad u e1 e2
          exact .inr ⟨q, ad, u', e1, e3⟩
      inj := a.inj
      cells := a.cells
      cellL := a.cellL
      own := fun j av' e => by
        by_cases hj : j = i
        · subst hj
          obtain ⟨e1, rfl⟩ := same _ _ e
          obtain ⟨b, e2, e3, e4, _⟩ := ho e1.symm
          subst e3
          exact ⟨x, b, hx, p.here, by unfold Fk; rw [if_pos rfl]; exact e2, fun z => (hnd e1.symm z b rfl).at fun o q => kept b o (fun w => a.mineThere tbad (w ▸ e4)) q, dv⟩
        · obtain ⟨y, ad, e1, l, e2, nd, dd, _⟩ := ownJ j av' hj (other j true av' hj e)
          exact ⟨y, ad, e1, l, e2, nd, dd⟩
      ow1 := fun j ad e => by
        unfold Fk at e
        split at e
        · rename_i hj; subst hj
          cases own with
          | false => rw [(hs rfl).1] at e; cases e
          | true =>
            have hnone := na_none ad e
            have hi : j < σ.length := by rw [← a.ev.n]; exact a.ev.vb x j hx
            refine ⟨⟨av, by rw [List.getElem?_set]; simp [hi]⟩, (by obtain ⟨b, e2, _, _, e4⟩ := ho rfl; rw [e2] at e; cases e; exact e4), fun q => ?_, fun y q => ?_⟩
            · obtain ⟨m, o, _, _, e1, _⟩ := a.ns; rw [q, e1] at hnone; cases hnone
            · exact a.mineThere (.inr (.inl ⟨y, q⟩)) hnone
        · rename_i hj
          obtain ⟨⟨av', h1⟩, h2⟩ := a.ow1 j ad e
          exact ⟨⟨av', by rw [List.getElem?_set_ne (fun q => hj q.symm)]; exact h1⟩, fun q => h2.1 (hn ad q (a.mineThere (.inr (.inr ⟨j, e⟩)))), h2.2⟩
      ow2 := fun j j' ad e1 e2 => by
        unfold Fk at e1 e2
        split at e1
        · rename_i q1
          split at e2
          · rename_i q2; rw [q1, q2]
          · exact absurd (na_none ad e1) (a.mineThere (.inr (.inr ⟨j', e2⟩)))
        · split at e2
          · exact absurd (na_none ad e2) (a.mineThere (.inr (.inr ⟨j, e1⟩)))
          · exact a.ow2 j j' ad e1 e2
      fsIn := fun b q => (a.fsIn b q).imp (hb b) id
      obN := fun b q q' => a.obN b q (hn b q' (a.mineThere (q.elim .inl fun q => .inr (.inl q))))
      top := a.top }
  · exact {
      keep := fun b o hb e => by
        obtain ⟨k1, sl, k2⟩ := k b o e
        have hbt : b ≠ t := fun q => hb (q ▸ tbad)
        exact ⟨fun q => kept b o hbt (k1 q), sl, kept b _ hbt k2⟩
      nb := fun b hb e q => hb (mback b e q)
      dom := fun b e => dom₁ b (k.stay e) }
theorem Act.put {x : Str} {i : Nat} {v : Value} {av : AV} {own : Bool} {na : Option Addr} (a : Act c A ce env ob σ ow h) (k : Kp (Ac A) h h₁) (p : Put ce env h₁ h' x v) (hx : ce.vm.lookup x = some i)
    (d : DenT c h₁ (Ar env ob ow) av v) (hf : ∀ b, v = .ref b → b ∉ Ac A) (hs : own = false → na = none ∧ ∀ b, v = .ref b → ¬ Ar env ob ow b) (ho : own = true → ∃ b, na = some b ∧ v = .ref b ∧ h.get? b = none) (hnd : own = true → ce.ap.contains i = true → ∀ b, v = .ref b → ND h₁ b) :
    Act c A ce env ob (σ.set i (some (own, av))) (Fk ow i na) h' ∧ Rel (Ac A) (mine env ow) (mine env (Fk ow i na)) h h' :=
  a.put' k p hx (fun _ q => q) (fun _ q _ => q) (fun b q => k.stay (a.ev.badD b (.inl q))) d hf hs (fun q => let ⟨b, e1, e2, e3⟩ := ho q; ⟨b, e1, e2, e3, fun q' => a.ev.badD b (.inl q') e3⟩) hnd
theorem Act.outer (a : Act c A ce env ob σ ow h) (hk : ∀ b o, (ob b → b ∈ Ac A) → h.get? b = some o → h'.get? b = some o) (hd : ∀ b, h.get? b ≠ none → h'.get? b ≠ none) : Act c A ce env ob σ ow h' := by
  have cy : Ex h h' (Ar env ob ow) (Ar env ob ow) := ⟨fun b o hb e => hk b o (fun q => absurd (.inl q) hb) e, fun _ hb _ => hb⟩
  have lds : ∀ x u, Gz env h x u → Gz env h' x u := fun x u l => by
    rcases l with ⟨e, m, n, q⟩ | ⟨e, t, q, o, e1, e2⟩
    · exact .inl ⟨e, m, n.at' fun o e => hk _ o (fun z => absurd z (a.obN _ (.inl rfl))) e, q⟩
    · exact .inr ⟨e, t, q, o, hk t o (fun z => absurd z (a.obN _ (.inr ⟨x, q⟩))) e1, e2⟩
  have ownJ : ∀ i av, σ[i]? = some (some (true, av)) → OwnV c ce env (Ar env ob ow) ow h' i av := fun i av e => by
    obtain ⟨x, ad, e1, l, e2, nd, dd⟩ := a.own i av e
    exact ⟨x, ad, e1, lds x _ l, e2, fun z => (nd z).at fun o q => hk _ o (fun z => absurd z (a.ow1 i _ e2).2.1) q, DenT.carryTop cy _ _ dd fun b o e q => by cases e; exact hk _ o (fun z => absurd z (a.ow1 i _ e2).2.1) q⟩
  exact {
    ev := { a.ev with
      ground := fun b o e => hk b o (fun z => by first | exact (nN (a.ev.badG b (.inl z)) e).elim | (rw [a.ev.badG b (.inl z)] at e; cases e)) (a.ev.ground b o e)
      badD := fun b q => hd b (a.ev.badD b q)
      fr := fun l hl e he => by
        obtain ⟨g1, L, o, g2, g3, g4⟩ := a.ev.fr l hl e he
        have hin : L ∈ Ac A := by unfold Ac; rw [hl]; exact List.mem_filterMap.mpr ⟨e, he, g2⟩
        exact ⟨g1, L, o, g2, hk L o (fun _ => hin) g3, g4⟩
      var := fun x j own' av' e1 e2 => by
        cases own' with
        | false =>
          obtain ⟨u, l, dd, n⟩ := a.ev.var x j false av' e1 e2
          exact ⟨u, lds x _ l, ⟨DenT.carryTop cy _ _ dd.1 fun b o e q => hk b o (fun z => absurd (.inl z) (n rfl b e)) q, dd.2⟩, n⟩
        | true =>
          obtain ⟨z, adj, g1, l, g2, _, dd⟩ := ownJ j av' e2
          have : x = z := a.inj x z j e1 g1
          subst this
          exact ⟨.ref adj, l, ⟨dd, fun b e q => by cases e; exact (a.fsIn _ q).elim (a.ow1 j _ g2).2.1 (a.ow1 j _ g2).2.2.1⟩, fun q => by cases q⟩ }
    ns := let ⟨m, n⟩ := a.ns; ⟨m, n.at' fun o e => hk _ o (fun z => absurd z (a.obN _ (.inl rfl))) e⟩
    kinds := fun x j e => by
      rcases a.kinds x j e with q | ⟨q, t, u, e1, o, e2, e3⟩
      · exact .inl q
      · exact .inr ⟨q, t, u, e1, o, hk t o (fun z => absurd z (a.obN _ (.inr ⟨x, e1⟩))) e2, e3⟩
    inj := a.inj
    cells := a.cells
    cellL := a.cellL
    own := ownJ
    ow1 := a.ow1
    ow2 := a.ow2
    fsIn := a.fsIn
    obN := a.obN
    top := a.top }
theorem Act.shed {ob' : Addr → Prop} (a : Act c A ce env ob' σ ow h) (hb : ∀ b, ob b → ob' b) (hf : ∀ b ∈ Ac A, ob b ∨ b = env.locals) (hk : ∀ b o, (ob' b → ob b) → h.get? b = some o → h'.get? b = some o) : Act c A ce env ob σ ow h' := by
  have hbad : ∀ b, Ar env ob ow b → Ar env ob' ow b := fun b q => q.elim (fun q => .inl (hb b q)) .inr
  have cy : Ex h h' (Ar env ob' ow) (Ar env ob ow) := ⟨fun b o hb e => hk b o (fun q => absurd (.inl q) hb) e, fun b q _ q' => q (hbad b q')⟩
  have lds : ∀ x u, Gz env h x u → Gz env h' x u := fun x u l => by
    rcases l with ⟨e, m, n, q⟩ | ⟨e, t, q, o, e1, e2⟩
    · exact .inl ⟨e, m, n.at' fun o e => hk _ o (fun z => absurd z (a.obN _ (.inl rfl))) e, q⟩
    · exact .inr ⟨e, t, q, o, hk t o (fun z => absurd z (a.obN _ (.inr ⟨x, q⟩))) e1, e2⟩
  have ownJ : ∀ i av, σ[i]? = some (some (true, av)) → OwnV c ce env (Ar env ob ow) ow h' i av := fun i av e => by
    obtain ⟨x, ad, e1, l, e2, nd, dd⟩ := a.own i av e
    exact ⟨x, ad, e1, lds x _ l, e2, fun z => (nd z).at fun o q => hk _ o (fun z => absurd z (a.ow1 i _ e2).2.1) q, DenT.carryTop cy _ _ dd fun b o e q => by cases e; exact hk _ o (fun z => absurd z (a.ow1 i _ e2).2.1) q⟩
  have there : ∀ b, Ar env ob ow b → h'.get? b ≠ none := fun b q => by
    have h1 := a.ev.badD b (hbad b q)
    cases z : h.get? b with
    | none => exact absurd z h1
    | some o =>
      rw [hk b o (fun w => ?_) z]; simp
      rcases q with q | q
      · exact q
      · exfalso
        rcases q with q | q | ⟨j, q⟩
        · exact a.obN b (.inl q) w
        · exact a.obN b (.inr q) w
        · exact (a.ow1 j b q).2.1 w
  exact {
    ev := { a.ev with
      ground := fun b o e => hk b o (fun z => by first | exact (nN (a.ev.badG b (.inl z)) e).elim | (rw [a.ev.badG b (.inl z)] at e; cases e)) (a.ev.ground b o e)
      badG := fun b q => a.ev.badG b (hbad b q)
      badD := there
      fsb := fun b q => (hf b q).elim .inl fun e => .inr (.inl e)
      fr := fun l hl e he => by
        obtain ⟨g1, L, o, g2, g3, g4⟩ := a.ev.fr l hl e he
        have hin : L ∈ Ac A := by unfold Ac; rw [hl]; exact List.mem_filterMap.mpr ⟨e, he, g2⟩
        exact ⟨g1, L, o, g2, hk L o (fun z => (hf L hin).elim id fun q => absurd z (a.obN _ (.inl q))) g3, g4⟩
      var := fun x j own' av' e1 e2 => by
        cases own' with
        | false =>
          obtain ⟨u, l, dd, n⟩ := a.ev.var x j false av' e1 e2
          exact ⟨u, lds x _ l, ⟨DenT.carryTop cy _ _ dd.1 fun b o e q => hk b o (fun z => absurd (.inl z) (n rfl b e)) q, dd.2⟩, fun _ b e q => n rfl b e (hbad b q)⟩
        | true =>
          obtain ⟨z, adj, g1, l, g2, _, dd⟩ := ownJ j av' e2
          have : x = z := a.inj x z j e1 g1
          subst this
          exact ⟨.ref adj, l, ⟨dd, fun b e q => by cases e; exact (a.fsIn _ q).elim (a.ow1 j _ g2).2.1 (a.ow1 j _ g2).2.2.1⟩, fun q => by cases q⟩ }
    ns := let ⟨m, n⟩ := a.ns; ⟨m, n.at' fun o e => hk _ o (fun z => absurd z (a.obN _ (.inl rfl))) e⟩
    kinds := fun x j e => by
      rcases a.kinds x j e with q | ⟨q, t, u, e1, o, e2, e3⟩
      · exact .inl q
      · exact .inr ⟨q, t, u, e1, o, hk t o (fun z => absurd z (a.obN _ (.inr ⟨x, e1⟩))) e2, e3⟩
    inj := a.inj
    cells := a.cells
    cellL := a.cellL
    own := ownJ
    ow1 := fun i ad e => let ⟨h1, h2, h3⟩ := a.ow1 i ad e; ⟨h1, fun q => h2 (hb ad q), h3⟩
    ow2 := a.ow2
    fsIn := hf
    obN := fun b q q' => a.obN b q (hb b q')
    top := a.top }
end
end Mine
end
section
open PySem PyProof.Rows PySem.SeqAt
namespace Mine
set_option tactic.hygienic false
set_option autoImplicit false
section
variable {c : Cx} {A : Around} {ce : CE} {env : Env} {ob : Addr → Prop} {σ : St} {ow : Nat → Option Addr} {h h₁ h' : Heap}
theorem owned_fs (a : Act c A ce env ob σ ow h) {i : Nat} {ad : Addr} (e : ow i = some ad) : ad ∉ Ac A := fun q => (a.fsIn ad q).elim (a.ow1 i ad e).2.1 (a.ow1 i ad e).2.2.1
theorem Act.mut {i : Nat} {ad : Addr} {y : AV} (a : Act c A ce env ob σ ow h) (k : Kp (Ac A) h h₁) (hi : ow i = some ad) (hk : ∀ b o, b ≠ ad → h₁.get? b = some o → h'.get? b = some o) (d : DenT c h' (Ar env ob ow) y (.ref ad)) (hnd : ce.ap.contains i = true → ND h' ad) :
    Act c A ce env ob (σ.set i (some (true, y))) ow h' ∧ Rel (Ac A) (mine env ow) (mine env ow) h h' := by
  have a₁ := a.kp k
  obtain ⟨⟨av₀, hσ⟩, o1, o2, o3⟩ := a.ow1 i ad hi
  have hnf := owned_fs a hi
  have hmi : mine env ow ad := .inr (.inr ⟨i, hi⟩)
  have had : h'.get? ad ≠ none := DenT.there y ad d
  have dom₁ : ∀ b, h₁.get? b ≠ none → h'.get? b ≠ none := fun b e => by
    by_cases hb : b = ad
    · subst hb; exact had
    · exact Fx e fun o q => ⟨_, hk b o hb q⟩
  have cy : Ex h₁ h' (Ar env ob ow) (Ar env ob ow) := ⟨fun b o hb e => hk b o (fun q => hb (.inr (q ▸ hmi))) e, fun _ hb _ => hb⟩
  have lds : ∀ x u, Gz env h₁ x u → Gz env h' x u := fun x u l => by
    rcases l with ⟨e, m, n, q⟩ | ⟨e, t, q, o, e1, e2⟩
    · exact .inl ⟨e, m, n.at' fun o e => hk _ o (fun z => o2 z.symm) e, q⟩
    · exact .inr ⟨e, t, q, o, hk t o (fun z => o3 x (z ▸ q)) e1, e2⟩
  obtain ⟨x₀, ad₀, f1, f2, f3, _, f4⟩ := a₁.own i av₀ hσ
  rw [hi] at f3; cases f3
  have other : ∀ j own' av', j ≠ i → (σ.set i (some (true, y)))[j]? = some (some (own', av')) → σ[j]? = some (some (own', av')) := fun j own' av' hj e => by
    rw [List.getElem?_set_ne (fun q => hj q.symm)] at e; exact e
  have same : ∀ own' av', (σ.set i (some (true, y)))[i]? = some (some (own', av')) → own' = true ∧ av' = y := fun own' av' e => by
    rw [List.getElem?_set] at e
    simp only [if_true] at e
    split at e <;> cases e
    exact ⟨rfl, rfl⟩
  have ownJ : ∀ j av', j ≠ i → σ[j]? = some (some (true, av')) → OwnV c ce env (Ar env ob ow) ow h' j av' := fun j av' hj e => by
    obtain ⟨z, adj, e1, l, e2, nd, dd⟩ := a₁.own j av' e
    have hne : adj ≠ ad := fun w => hj (a.ow2 j i ad (w ▸ e2) hi)
    refine ⟨z, adj, e1, lds z _ l, e2, fun z => (nd z).at fun o q => hk _ o hne q, DenT.carryTop cy _ _ dd fun b o e q => ?_⟩
    cases e
    exact hk _ o hne q
  refine ⟨?_, ?_⟩
  · exact {
      ev := {
        kind := a.ev.kind
        globs := a.ev.globs
        blts := a.ev.blts
        gk := a.ev.gk
        ck := a.ev.ck
        ground := fun b o e => hk b o (fun q => by first | exact (nN (a.ev.badG b (.inr (q ▸ hmi))) e).elim | (rw [a.ev.badG b (.inr (q ▸ hmi))] at e; cases e)) (a₁.ev.ground b o e)
        badG := a.ev.badG
        badD := fun b q => dom₁ b (a₁.ev.badD b q)
        fsb := a.ev.fsb
        fr := fun l hl e he => by
          obtain ⟨g1, L, o, g2, g3, g4⟩ := a₁.ev.fr l hl e he
          have hin : L ∈ Ac A := by unfold Ac; rw [hl]; exact List.mem_filterMap.mpr ⟨e, he, g2⟩
          exact ⟨g1, L, o, g2, hk L o (fun q => hnf (q ▸ hin)) g3, g4⟩
        n := by rw [List.length_set]; exact a.ev.n
        gt := a.ev.gt
        vb := a.ev.vb
        var := fun x j own' av' e1 e2 => by
          by_cases hj : j = i
          · subst hj
            have : x = x₀ := a.inj x x₀ j e1 f1
            subst this
            obtain ⟨rfl, rfl⟩ := same _ _ e2
            exact ⟨.ref ad, lds x _ f2, ⟨d, fun b e => by cases e; exact hnf⟩, fun q => by cases q⟩
          · have e3 := other j own' av' hj e2
            cases own' with
            | false =>
              obtain ⟨u, l, dd, n⟩ := a₁.ev.var x j false av' e1 e3
              exact ⟨u, lds x _ l, ⟨DenT.carryTop cy _ _ dd.1 fun b o e q => hk b o (fun z => n rfl b e (.inr (z ▸ hmi))) q, dd.2⟩, n⟩
            | true =>
              obtain ⟨z, adj, g1, l, g2, _, dd⟩ := ownJ j av' hj e3
              have : x = z := a.inj x z j e1 g1
              subst this
              exact ⟨.ref adj, l, ⟨dd, fun b e => by cases e; exact owned_fs a g2⟩, fun q => by cases q⟩ }
      ns := let ⟨m, n⟩ := a₁.ns; ⟨m, n.at' fun o e => hk _ o (fun z => o2 z.symm) e⟩
      kinds := fun x j e => by
        rcases a₁.kinds x j e with q | ⟨q, t, u, e1, o, e2, e3⟩
        · exact .inl q
        · exact .inr ⟨q, t, u, e1, o, hk t o (fun z => o3 x (z ▸ e1)) e2, e3⟩
      inj := a.inj
      cells := a.cells
      cellL := a.cellL
      own := fun j av' e => by
        by_cases hj : j = i
        · subst hj
          obtain ⟨_, rfl⟩ := same _ _ e
          exact ⟨x₀, ad, f1, lds x₀ _ f2, hi, hnd, d⟩
        · exact ownJ j av' hj (other j true av' hj e)
      ow1 := fun j adj e => by
        obtain ⟨⟨av', h1⟩, h2⟩ := a.ow1 j adj e
        refine ⟨?_, h2⟩
        by_cases hj : j = i
        · subst hj
          exact ⟨y, by rw [List.getElem?_set]; simp [(List.getElem?_eq_some_iff.mp h1).1]⟩
        · exact ⟨av', by rw [List.getElem?_set_ne (fun q => hj q.symm)]; exact h1⟩
      ow2 := a.ow2
      fsIn := a.fsIn
      obN := a.obN
      top := a.top }
  · exact {
      keep := fun b o hb e => by
        obtain ⟨k1, sl, k2⟩ := k b o e
        have hbt : b ≠ ad := fun q => hb (q ▸ hmi)
        exact ⟨fun q => hk b o hbt (k1 q), sl, hk b _ hbt k2⟩
      nb := fun b hb _ => hb
      dom := fun b e => dom₁ b (k.stay e) }
end
noncomputable def Au (fresh : Nat → Bool) : MS → Bool
  | .seq a b => Au fresh a && Au fresh b
  | .fz _ a => Au fresh a
  | .ite _ a b => Au fresh a && Au fresh b
  | .while _ b => Au fresh b
  | .for _ _ b => Au fresh b
  | .ret m => Ig fresh m
  | _ => true
noncomputable def flowOf : Out → Flow
  | .brk => .brk
  | .cont => .cont
  | _ => .next
noncomputable def Done (c : Cx) (A : Around) (ce : CE) (env : Env) (ob : Addr → Prop) (fq : Bool) (ow : Nat → Option Addr) (s : Shared) (o : Out) (σ' : St) (f : Flow) (s' : Shared) : Prop := match o with
  | .exc => False
  | .ret av => ∃ v ow', f = .ret v ∧ RelS (Ac A) (mine env ow) (mine env ow') s s' ∧ DenT c s'.heap ob av v ∧ (∀ b, v = .ref b → ¬ ob b ∧ b ∉ Ac A) ∧ (fq = true → ∀ b, v = .ref b → s.heap.get? b = none)
  | o => ∃ ow', f = flowOf o ∧ Act c A ce env ob σ' ow' s'.heap ∧ RelS (Ac A) (mine env ow) (mine env ow') s s'
noncomputable def ExcTo (c : Cx) (A : Around) (ce : CE) (env : Env) (ob : Addr → Prop) (ow : Nat → Option Addr) (s : Shared) (o : Out) (σ' : St) (E : Value → Shared → Prop) : Prop :=
  o = .exc → ∀ (s₁ : Shared) (h' : Heap) (ea : Addr) (args : List Value) (ow' : Nat → Option Addr), Act c A ce env ob σ' ow' s₁.heap → RelS (Ac A) (mine env ow) (mine env ow') s s₁ → Heap.MadeExcOf s₁.heap h' ea (.type "ValueError") args → E (.ref ea) { s₁ with heap := h' }
noncomputable def SS (c : Cx) (d : Nat) (ce : CE) (fq : Bool) (run : Env → Sem Flow) (ms : MS) : Prop :=
  ∀ (N : Nat) (A : Around) (env : Env) (ob : Addr → Prop) (σ : St) (ow : Nat → Option Addr) (s : Shared) (o : Out) (σ' : St) (E : Value → Shared → Prop), Room A d → Act c A ce env ob σ ow s.heap → Ah c.G c.F N ms σ = some (o, σ') → (fq = true → Au c.fresh ms = true) →
    PassesOwn (model c.prog c.w) A env E → ExcTo c A ce env ob ow s o σ' E → wpAny (model c.prog c.w) A (run env) (Done c A ce env ob fq ow s o σ') E s
section
variable {c : Cx} {d : Nat} {ce : CE} {fq : Bool} {A : Around} {env : Env} {ob : Addr → Prop} {ow ow₁ : Nat → Option Addr} {s s₁ : Shared} {o : Out} {σ' : St}
theorem Done.after {f : Flow} {s' : Shared} (r : RelS (Ac A) (mine env ow) (mine env ow₁) s s₁) (x : Done c A ce env ob fq ow₁ s₁ o σ' f s') : Done c A ce env ob fq ow s o σ' f s' := by
  cases o with
  | exc => exact x
  | ret av =>
    obtain ⟨v, ow', h1, h2, h3, h4, h5⟩ := x
    exact ⟨v, ow', h1, r.trans h2, h3, h4, fun q b e => by
      cases z : s.heap.get? b with
      | none => rfl
      | some ob' => exact absurd (h5 q b e) (r.heap.dom b (by first | exact nn (z) | (rw [z]; simp)))⟩
  | next => obtain ⟨ow', h1, h2, h3⟩ := x; exact ⟨ow', h1, h2, r.trans h3⟩
  | brk => obtain ⟨ow', h1, h2, h3⟩ := x; exact ⟨ow', h1, h2, r.trans h3⟩
  | cont => obtain ⟨ow', h1, h2, h3⟩ := x; exact ⟨ow', h1, h2, r.trans h3⟩
theorem ExcTo.after {E : Value → Shared → Prop} (r : RelS (Ac A) (mine env ow) (mine env ow₁) s s₁) (x : ExcTo c A ce env ob ow s o σ' E) : ExcTo c A ce env ob ow₁ s₁ o σ' E :=
  fun q s₂ h' ea args ow' a' r' m => x q s₂ h' ea args ow' a' (r.trans r') m
theorem SS.fz {run : Env → Sem Flow} {ms : MS} (i : Nat) (h : SS c d ce fq run ms) : SS c d ce fq run (.fz i ms) := fun N A env ob σ ow s o σ' E rm a e hf hE hx => by
  simp only [J2] at e
  have r : RelS (Ac A) (mine env ow) (mine env (Gx ow i)) s s := ⟨s.heap, s.toks, rfl, .less owFree_less⟩
  exact wpAny_mono (h N A env ob (freeze σ i) (Gx ow i) s o σ' E rm (a.freeze i) e hf hE (hx.after r)) (fun f s' x => x.after r) fun _ _ q => q
theorem SS.fzAll {run : Env → Sem Flow} {ms : MS} : ∀ (is : List Nat), SS c d ce fq run ms → SS c d ce fq run (fzAll is ms)
  | [], h => h
  | i :: r, h => SS.fz i (SS.fzAll r h)
theorem SS.nil : SS c d ce fq (fun env => execs [] env) .skip := fun N A env ob σ ow s o σ' E rm a e hf hE hx => by
  simp only [J0] at e; cases e
  exact wpAny_execs_nil ⟨ow, rfl, a, .refl⟩
theorem SS.cons {st : Stmt} {rest : List Stmt} {m ms : MS} (h : SS c d ce fq (fun env => exec st env) m) (hr : SS c d ce fq (fun env => execs rest env) ms) : SS c d ce fq (fun env => execs (st :: rest) env) (.seq m ms) := fun N A env ob σ ow s o σ' E rm a e hf hE hx => by
  simp only [J1] at e
  have hf1 : fq = true → Au c.fresh m = true := fun q => (Bool.and_eq_true_iff.mp (hf q)).1
  have hf2 : fq = true → Au c.fresh ms = true := fun q => (Bool.and_eq_true_iff.mp (hf q)).2
  cases q1 : Ah c.G c.F N m σ with
  | none => rw [q1] at e; cases e
  | some p =>
    obtain ⟨o₁, σ₁⟩ := p
    rw [q1] at e
    refine wpAny_execs_cons ?_
    cases o₁ with
    | next =>
      dsimp only at e
      refine wpAny_mono (h N A env ob σ ow s .next σ₁ E rm a q1 hf1 hE (fun q => by cases q)) (fun f s' x => ?_) fun _ _ q => q
      obtain ⟨ow', rfl, a', r⟩ := x
      exact wpAny_mono (hr N A env ob σ₁ ow' s' o σ' E rm a' e hf2 hE (hx.after r)) (fun f s' x => x.after r) fun _ _ q => q
    | exc =>
      cases e
      exact wpAny_mono (h N A env ob σ ow s .exc _ E rm a q1 hf1 hE hx) (fun f s' x => x.elim) fun _ _ q => q
    | ret av =>
      cases e
      refine wpAny_mono (h N A env ob σ ow s (.ret av) _ E rm a q1 hf1 hE hx) (fun f s' x => ?_) fun _ _ q => q
      have x' := x
      obtain ⟨v, ow', rfl, _⟩ := x
      exact x'
    | brk =>
      cases e
      refine wpAny_mono (h N A env ob σ ow s .brk _ E rm a q1 hf1 hE hx) (fun f s' x => ?_) fun _ _ q => q
      have x' := x
      obtain ⟨ow', rfl, _⟩ := x
      exact x'
    | cont =>
      cases e
      refine wpAny_mono (h N A env ob σ ow s .cont _ E rm a q1 hf1 hE hx) (fun f s' x => ?_) fun _ _ q => q
      have x' := x
      obtain ⟨ow', rfl, _⟩ := x
      exact x'
theorem SS.ite {t : Expr} {b oe : List Stmt} {p : Pos} {m : ME} {mb mo : MS} (ht : SB c d ce t m) (hb : SS c d ce fq (fun env => execs b env) mb) (ho : SS c d ce fq (fun env => execs oe env) mo) :
    SS c d ce fq (fun env => exec (.If t b oe p) env) (.ite m mb mo) := fun N A env ob σ ow s o σ' E rm a e hf hE hx => by
  simp only [J8] at e
  have hf1 : fq = true → Au c.fresh mb = true := fun q => (Bool.and_eq_true_iff.mp (hf q)).1
  have hf2 : fq = true → Au c.fresh mo = true := fun q => (Bool.and_eq_true_iff.mp (hf q)).2
  cases q1 : Bc c.G c.F m σ with
  | none => rw [q1] at e; cases e
  | some t =>
    rw [q1] at e
    refine wpAny_If (wpAny_mono (ht A env σ _ s t rm a.ev q1) (fun t' s₁ h₁ => ?_) fun _ _ q => q.elim)
    obtain ⟨rfl, k⟩ := h₁
    have r : RelS (Ac A) (mine env ow) (mine env ow) s s₁ := .kp k
    cases t' with
    | true =>
      rw [if_pos rfl]
      exact wpAny_mono (hb N A env ob σ ow s₁ o σ' E rm (a.kpS k) e hf1 hE (hx.after r)) (fun f s' x => x.after r) fun _ _ q => q
    | false =>
      rw [if_neg (by simp)]
      exact wpAny_mono (ho N A env ob σ ow s₁ o σ' E rm (a.kpS k) e hf2 hE (hx.after r)) (fun f s' x => x.after r) fun _ _ q => q
theorem SS.ret {e : Expr} {p : Pos} {m : ME} (h : SE c d ce true e m) : SS c d ce fq (fun env => exec (.Return (some e) p) env) (.ret m) := fun N A env ob σ ow s o σ' E rm a q hf hE hx => by
  replace q := i1 q
  obtain ⟨av, q1, q⟩ := q
  obtain ⟨rfl, rfl⟩ := Prod.mk.inj (Option.some.inj q)
  refine wpAny_Return_some (wpAny_mono (h A env σ _ s av rm a.ev q1) (fun v s₁ h₁ => ?_) fun _ _ q => q.elim)
  obtain ⟨k, d, n, fr⟩ := h₁
  refine ⟨v, ow, rfl, .kp k, DenT.carryTop (bad' := ob) ⟨fun _ _ _ e => e, fun b hb _ q => hb (.inl q)⟩ _ _ d.1 fun _ _ _ e => e, fun b e => ⟨fun q => n rfl b e (.inl q), d.2 b e⟩, fun q b e => fr ?_ b e⟩
  exact hf q
theorem SS.brk {p : Pos} : SS c d ce fq (fun env => exec (.Break p) env) .brk := fun N A env ob σ ow s o σ' E rm a e hf hE hx => by
  simp only [K3] at e; cases e
  exact wpAny_Break ⟨ow, rfl, a, .refl⟩
theorem SS.cont {p : Pos} : SS c d ce fq (fun env => exec (.Continue p) env) .cont := fun N A env ob σ ow s o σ' E rm a e hf hE hx => by
  simp only [K4] at e; cases e
  exact wpAny_Continue ⟨ow, rfl, a, .refl⟩
theorem Gl {s₀ : Shared} {mi mi' : Addr → Prop} {h' : Heap} {tk : Nat} {fs : List Addr} (k : KpS fs s₀ s) (r : Rel fs mi mi' s₀.heap h') : RelS fs mi mi' s₀ { s with heap := h', toks := tk } := by
  obtain ⟨h₁, tk₁, rfl, _⟩ := k
  exact ⟨h', tk, rfl, r⟩
theorem SS.assign1 {x : Str} {i : Nat} {e : Expr} {p p' : Pos} {m : ME} (hx : ce.vm.lookup x = some i) (h : SE c d ce true e m) (hs : ∀ env : Env, swapsWith e (some (.Name x p')) p.line env = pure false) :
    SS c d ce fq (fun env => exec (.Assign [.Name x p'] e p) env) (.assign i m) := fun N A env ob σ ow s o σ' E rm a q hf hE hex => by
  replace q := i1 q
  obtain ⟨av, q1, q⟩ := q
  obtain ⟨rfl, rfl⟩ := Prod.mk.inj (Option.some.inj q)
  refine wpAny_Assign_Name (wpAny_mono (h A env σ _ s av rm a.ev q1) (fun v s₁ h₁ => ?_) fun _ _ q => q.elim) (hs env)
  obtain ⟨k, d, n, fr⟩ := h₁
  refine Gq (a.kpS k) hx fun h' tk put => ?_
  obtain ⟨a', r⟩ := a.put (own := false) (na := none) k.heap put hx d.1 d.2 (fun _ => ⟨rfl, n rfl⟩) (fun q => by cases q) (fun q => by cases q)
  exact ⟨_, rfl, a', Gl k r⟩
theorem SS.assignF1 {x : Str} {i : Nat} {e : Expr} {p p' : Pos} {m : ME} (hx : ce.vm.lookup x = some i) (hap : ce.ap.contains i = false) (h : SE c d ce true e m) (hfr : Ig c.fresh m = true) (hs : ∀ env : Env, swapsWith e (some (.Name x p')) p.line env = pure false) :
    SS c d ce fq (fun env => exec (.Assign [.Name x p'] e p) env) (.assignF i m) := fun N A env ob σ ow s o σ' E rm a q hf hE hex => by
  replace q := i1 q
  obtain ⟨av, q1, q⟩ := q
  replace q := iS q
  obtain ⟨hl, q⟩ := q
  obtain ⟨rfl, rfl⟩ := Prod.mk.inj q
  refine wpAny_Assign_Name (wpAny_mono (h A env σ _ s av rm a.ev q1) (fun v s₁ h₁ => ?_) fun _ _ q => q.elim) (hs env)
  obtain ⟨k, d, n, fr⟩ := h₁
  refine Gq (a.kpS k) hx fun h' tk put => ?_
  have hv : ∃ b, v = .ref b := by
    have := d.1
    cases av <;> simp only [isList] at hl <;> try (cases hl; done)
    all_goals (simp only [DenT] at this; obtain ⟨b, _, e, _⟩ := this; exact ⟨b, e⟩)
  obtain ⟨b, rfl⟩ := hv
  obtain ⟨a', r⟩ := a.put (own := true) (na := some b) k.heap put hx d.1 d.2 (fun q => by cases q) (fun _ => ⟨b, rfl, rfl, fr hfr b rfl⟩) (fun _ q => by first | exact (nN (hap) q).elim | (rw [hap] at q; cases q))
  exact ⟨_, rfl, a', Gl k r⟩
theorem SS.assignL {x : Str} {i : Nat} {es : List Expr} {p p' p'' : Pos} {m : ME} (hx : ce.vm.lookup x = some i) (h : SL c d ce es m) :
    SS c d ce fq (fun env => exec (.Assign [.Name x p'] (.List es p'') p) env) (.assignL i m) := fun N A env ob σ ow s o σ' E rm a q hf hE hex => by
  replace q := iT q
  obtain ⟨zs, q1, q⟩ := q
  replace q := iS q
  obtain ⟨hlen, q⟩ := q
  obtain ⟨rfl, rfl⟩ := Prod.mk.inj q
  · refine wpAny_Assign_Name (wpAny_List (wpAny_mono (h A env σ _ s p'' zs rm a.ev q1) (fun vs s₁ h₁ => ?_) fun _ _ q => q.elim)) rfl
    have hl := h₁.2.length
    have hll := Ew
    refine ⟨by with_reducible exact (ZA ‹_› ‹_› ‹_›), ?_⟩
    have a₁ := a.kpS h₁.1
    have k := h₁.1.trans (kpush (o := { cls := .type "list", data := .seq vs.toArray }))
    have hnone : s.heap.get? s₁.heap.objs.size = none := h₁.1.heap.dom (Ba _)
    refine Gq (a.kpS k) hx fun h' tk put => ?_
    obtain ⟨a', r⟩ := a.put (own := true) (na := some s₁.heap.objs.size) (av := mkL zs) k.heap put hx (den_mkL (Bi ..) (h₁.2.push _) hlen)
      (fun b e q => by cases e; exact a.ev.badD _ (a.ev.fsb _ q) hnone) (fun q => by cases q) (fun _ => ⟨_, rfl, rfl, hnone⟩) (fun _ _ b e => by cases e; exact ⟨_, Heap.get?_push_size _ rfl, rfl⟩)
    exact ⟨_, rfl, a', Gl k r⟩
end
end Mine
end
section
open PySem PyProof.Rows PySem.SeqAt
namespace Mine
set_option tactic.hygienic false
set_option autoImplicit false
section
variable {c : Cx} {d : Nat} {ce : CE} {fq : Bool}
theorem comp_put {elt target iter : Expr} {ifs : List Expr} {scope : Scope} {pos p p' : Pos} {xs : List Str} {me mi mt : ME} {cpi : Bool} {A : Around} {env : Env} {ob : Addr → Prop} {σ : St} {ow : Nat → Option Addr} {s : Shared} {av : AV} {x : Str} {i : Nat} {E : Value → Shared → Prop} {Q : Flow → Shared → Prop} (own : Bool) (hap : own = true → ce.ap.contains i = false)
    (ok : c.Ok) (hx : ce.vm.lookup x = some i) (ht : Bh target = some xs) (sc : ScOk ce.scope scope xs) (hu : Go iter) (hi : SI c d ce cpi target iter mi) (he : SE c d (Bd ce scope xs) true elt me) (hT : ST c d (Bd ce scope xs) ifs mt)
    (rm : Room A d) (a : Act c A ce env ob σ ow s.heap) (e : Ae c.G c.F (.comp me xs.length mi mt) σ = some av)
    (hQ : ∀ ow' s', Act c A ce env ob (σ.set i (some (own, av))) ow' s'.heap → RelS (Ac A) (mine env ow) (mine env ow') s s' → Q .next s') :
    wpAny (model c.prog c.w) A (exec (.Assign [.Name x p'] (.ListComp elt [⟨target, iter, ifs, 0⟩] scope pos) p) env) Q E s := by
  have hSE : SE c d ce true (.ListComp elt [⟨target, iter, ifs, 0⟩] scope pos) (.comp me xs.length mi mt) := SE.comp ok ht sc hu hi he hT
  obtain ⟨b, hb⟩ : ∃ b, swapsWith (.ListComp elt [⟨target, iter, ifs, 0⟩] scope pos) (some (.Name x p')) p.line env = pure b := ⟨_, rfl⟩
  cases b with
  | false =>
    refine wpAny_Assign_Name (wpAny_mono (hSE A env σ _ s av rm a.ev e) (fun v s₁ h₁ => ?_) fun _ _ q => q.elim) hb
    obtain ⟨k, d, n, fr⟩ := h₁
    refine Gq (a.kpS k) hx fun h' tk put => ?_
    cases own with
    | false =>
      obtain ⟨a', r⟩ := a.put (own := false) (na := none) k.heap put hx d.1 d.2 (fun _ => ⟨rfl, n rfl⟩) (fun q => by cases q) (fun q => by cases q)
      exact hQ _ _ a' (Gl k r)
    | true =>
      have hv : ∃ b, v = .ref b := by
        have hd := d.1
        obtain ⟨_, _, e⟩ := i1 e
        obtain ⟨_, _, e⟩ := iL e
        obtain ⟨zs, rfl⟩ := iM e
        unfold mkL at hd
        cases hz : Fm zs <;> rw [hz] at hd <;> (simp only [DenT] at hd; obtain ⟨b, _, e, _⟩ := hd; exact ⟨b, e⟩)
      obtain ⟨b, rfl⟩ := hv
      obtain ⟨a', r⟩ := a.put (own := true) (na := some b) k.heap put hx d.1 d.2 (fun q => by cases q) (fun _ => ⟨b, rfl, rfl, fr rfl b rfl⟩) (fun q z => by first | exact (nN (hap q) z).elim | (rw [hap q] at z; cases z))
      exact hQ _ _ a' (Gl k r)
  | true =>
    rw [exec_Assign_Name_used _ _ _ _ hb]
    refine wpAny_bind (wpAny_standAt (wpAny_bind ?_))
    show wpAny _ A (do let _ ← comprehension (.ListComp elt [⟨target, iter, ifs, 0⟩] scope pos) scope env _ (newList []) false (eval iter env) (some (assign (.Name x p') env))) _ _ s
    refine wpAny_bind (wpAny_mono (comp_use (use := some (assign (.Name x p') env)) (Q := fun _ s' => Q .next s') ok ht sc hu hi he hT rm a.ev e fun D C h' tk m' hD hC hDC hn kp dn => ?_) (fun _ s' hq => wpAny_pure (wpAny_pure hq)) fun _ _ e => e)
    show wpAny _ A (assign (.Name x p') env (.ref D)) _ _ _
    have a₁ : Act c A ce env ob σ ow h' := a.kp kp
    refine wpAny_assign_Name (Gq (s := { s with heap := h', toks := tk }) a₁ hx fun h₂ tk₂ put => ?_)
    have put : Put ce env h' h₂ x (.ref D) := put
    have hCm : ∀ t, (t = env.locals ∨ ∃ y, env.cells.lookup y = some t) → C ≠ t := fun t ht q => by
      subst q
      exact a.mineThere (ht.elim .inl fun q => .inr (.inl q)) hC
    obtain ⟨t, ht', hkt, _⟩ := put.at'
    refine ⟨m', hn.at' fun o e => hkt C o (hCm t ht') e, fun h₃ hs₃ => ?_⟩
    have hCd : h'.get? C ≠ none := by obtain ⟨o, _, _, e, _⟩ := hn; rw [e]; simp
    have dn' : DenT c h' (Ar env (fun b => ob b ∨ b = C) ow) av (.ref D) := DenT.carryTop ⟨fun _ _ _ e => e, fun b hb _ q => hb (by
      rcases q with (q | q) | q
      · exact .inl (.inl q)
      · exact .inr q
      · exact .inl (.inr q))⟩ _ _ dn fun _ _ _ e => e
    have hDf : D ∉ Ac A := fun q => a.ev.badD D (a.ev.fsb D q) hD
    have fin : ∀ (na : Option Addr), (own = false → na = none) → (own = true → na = some D) → Q .next { s with heap := h₃, toks := tk₂ } := fun na h1 h2 => by
      obtain ⟨a', r⟩ := a.put' (ob' := fun b => ob b ∨ b = C) (own := own) (na := na) kp put hx (fun _ q => .inl q) (fun b q e => q.elim id fun z => absurd (z ▸ hC) e)
        (fun b q => q.elim (fun q => kp.stay (a.ev.badD b (.inl q))) fun z => z ▸ hCd) dn' (fun b e => by cases e; exact hDf)
        (fun q => ⟨h1 q, fun b e z => by
          cases e
          rcases z with (z | z) | z
          · exact a.ev.badD _ (.inl z) hD
          · exact hDC z
          · exact a.mineThere z hD⟩)
        (fun q => ⟨D, h2 q, rfl, hD, fun z => z.elim (fun z => a.ev.badD _ (.inl z) hD) hDC⟩) (fun q z => by first | exact (nN (hap q) z).elim | (rw [hap q] at z; cases z))
      have hk₃ : ∀ b o, b ≠ C → h₂.get? b = some o → h₃.get? b = some o := fun b o hb e => hs₃.extBut b o hb e
      have dom₃ : ∀ b, b ≠ C → h₂.get? b ≠ none → h₃.get? b ≠ none := fun b hb e => by
        exact Fx e fun o q => ⟨_, hk₃ b o hb q⟩
      have a'' := a'.shed (ob := ob) (h' := h₃) (fun _ q => .inl q) a.fsIn (fun b o z e => hk₃ b o (fun q => a.ev.badD b (.inl (z (.inr q))) (q ▸ hC)) e)
      refine hQ _ _ a'' ⟨h₃, tk₂, rfl, ?_⟩
      exact {
        keep := fun b o hb e => by
          have hbC : b ≠ C := fun q => by rw [q, hC] at e; cases e
          obtain ⟨k1, sl, k2⟩ := r.keep b o hb e
          exact ⟨fun q => hk₃ b o hbC (k1 q), sl, hk₃ b _ hbC k2⟩
        nb := r.nb
        dom := fun b e => dom₃ b (fun q => e (q ▸ hC)) (r.dom b e) }
    cases own with
    | false => exact fin none (fun _ => rfl) (fun q => by cases q)
    | true => exact fin (some D) (fun q => by cases q) (fun _ => rfl)
theorem no_swap {v : Expr} {o i : Expr} {p' : Pos} {n : Nat} {env : Env} : swapsWith v (some (.Subscript o i p')) n env = pure false := by
  cases v <;> rfl
theorem DenI.set : ∀ {xs : List Int} {vs : List Value} (k : Nat) (n : Int) (t : Tok), DenI xs vs → DenI (xs.set k n) (vs.set k (.int n t))
  | [], vs, k, n, t, h => by simp only [DenI] at h; subst h; simp [DenI]
  | x :: r, vs, k, n, t, h => by
    simp only [DenI] at h
    obtain ⟨t', w, rfl, hr⟩ := h
    cases k with
    | zero => simp only [List.set_cons_zero, DenI]; exact ⟨t, w, rfl, hr⟩
    | succ k => simp only [List.set_cons_succ, DenI]; exact ⟨t', _, rfl, hr.set k n t⟩
theorem DenL.set {h : Heap} {bad : Addr → Prop} : ∀ {xs : List AV} {vs : List Value} (k : Nat) {x : AV} {v : Value}, DenL c h bad xs vs → Den c h bad x v → DenL c h bad (xs.set k x) (vs.set k v)
  | [], vs, k, x, v, h, _ => by simp only [DenL] at h; subst h; simp [DenL]
  | y :: r, vs, k, x, v, h, hv => by
    simp only [DenL] at h
    obtain ⟨u, w, rfl, hd, hr⟩ := h
    cases k with
    | zero => simp only [List.set_cons_zero, DenL]; exact ⟨v, w, rfl, hv, hr⟩
    | succ k => simp only [List.set_cons_succ, DenL]; exact ⟨u, _, rfl, hd, hr.set k hv⟩
set_option tactic.hygienic true in
theorem SS.store {x : Str} {i : Nat} {k v : Expr} {p p₁ p₂ : Pos} {mk mv : ME} (hap : ce.ap.contains i = false) (hd : (x == ("__debug__" : Str)) = false) (hx : ce.vm.lookup x = some i) (hk : SE c d ce false k mk) (hv : SE c d ce true v mv) :
    SS c d ce fq (fun env => exec (.Assign [.Subscript (.Name x p₁) k p₂] v p) env) (.store i mk mv) := fun N A env ob σ ow s o σ' E rm a q hf hE hex => by
  replace q := iQ q
  obtain ⟨xv, kv, vv, q1, q2, q3, q⟩ := q
  replace q := i1 q
  obtain ⟨y, q4, q⟩ := q
  obtain ⟨rfl, rfl⟩ := Prod.mk.inj (Option.some.inj q)
  refine wpAny_Assign_Subscript (wpAny_mono (hv A env σ _ s vv rm a.ev q3) (fun u s₁ h₁ => ?_) fun _ _ q => q.elim) no_swap
  have a₁ := a.kpS h₁.1
  obtain ⟨x', ad, e1, l, e2, _, dd⟩ := a₁.own i xv q1
  have : x = x' := a.inj x x' i hx e1
  subst this
  refine load_var (c := c) a.ev.kind hd l ?_
  refine wpAny_mono (hk A env σ _ s₁ kv rm a₁.ev q2) (fun w s₂ h₂ => ?_) fun _ _ q => q.elim
  have k₀₂ := h₁.1.trans h₂.1
  have dd₂ : DenT c s₂.heap (Ar env ob ow) xv (.ref ad) := DenT.carryTop (.kp h₂.1.heap a.ev.fsb) _ _ dd fun b o e z => by cases e; exact (h₂.1.heap _ o z).1 (owned_fs a e2)
  have du : Den c s₂.heap (Ar env ob ow) vv u := (h₁.2.1.den (h₁.2.2.1 rfl)).kp h₂.1.heap a.ev.fsb
  have dk := h₂.2.1.1
  have hmi : mine env ow ad := .inr (.inr ⟨i, e2⟩)
  have hll := lim_lt
  cases xv <;> first | exact (nS q4).elim | (cases kv <;> first | exact (nS q4).elim | skip)
  · cases vv <;> first | exact (nS q4).elim | skip
    rename_i xs kk n
    obtain ⟨hb, rfl⟩ := iS q4
    simp only [DenT] at dd₂ dk
    obtain ⟨_, vs, e, hl, hz, hdi⟩ := dd₂
    cases e
    obtain ⟨t, rfl⟩ := dk
    have du := du.1
    simp only [DenT] at du
    obtain ⟨t', rfl⟩ := du
    have hlen := hdi.length
    refine wpAny_setItem_list hl hb.1 (by lia) (by rw [List.size_toArray, hlen]; exact hb.2) fun h' hl' hs => ?_
    obtain ⟨a', r⟩ := a.mut (h' := h') (y := .ilist (xs.set kk.toNat n)) k₀₂.heap e2 (fun b o hb' e => hs.extBut b o hb' e) (by
      simp only [DenT]
      exact ⟨ad, vs.set kk.toNat (.int n t'), rfl, by simpa using hl', by simpa using hz, hdi.set _ _ _⟩) (fun z => by first | exact (nN (hap) z).elim | (rw [hap] at z; cases z))
    exact ⟨ow, rfl, a', Gl (tk := s₂.toks) k₀₂ r⟩
  · rename_i xs kk
    obtain ⟨hb, rfl⟩ := iS q4
    simp only [DenT] at dd₂ dk
    obtain ⟨_, vs, e, hl, hz, hdi⟩ := dd₂
    cases e
    obtain ⟨t, rfl⟩ := dk
    have hlen := hdi.length
    refine wpAny_setItem_list hl hb.1 (by lia) (by rw [List.size_toArray, hlen]; exact hb.2) fun h' hl' hs => ?_
    have cy : Ex s₂.heap h' (Ar env ob ow) (Ar env ob ow) := ⟨fun b o hb e => hs.extBut b o (fun z => hb (.inr (z ▸ hmi))) e, fun _ hb _ => hb⟩
    obtain ⟨a', r⟩ := a.mut (h' := h') (y := .list (xs.set kk.toNat vv)) k₀₂.heap e2 (fun b o hb' e => hs.extBut b o hb' e) (by
      simp only [DenT]
      exact ⟨ad, vs.set kk.toNat u, rfl, by simpa using hl', by simpa using hz, DenL.carry cy _ _ (hdi.set _ du)⟩) (fun z => by first | exact (nN (hap) z).elim | (rw [hap] at z; cases z))
    exact ⟨ow, rfl, a', Gl (tk := s₂.toks) k₀₂ r⟩
theorem quiet_env {env : Env} (h : env.scope.kind = .function) : interactive env = false := by unfold interactive; rw [h]; rfl
set_option tactic.hygienic true in
theorem SS.append {x : Str} {i : Nat} {v : Expr} {p p₁ p₂ apos : Pos} {mv : ME} (hap : ce.ap.contains i = true) (hl : (apos.endLine == p₂.line) = true) (hd : (x == ("__debug__" : Str)) = false) (hst : Ai v = true) (hx : ce.vm.lookup x = some i) (hv : SE c d ce true v mv) :
    SS c d ce fq (fun env => exec (.Expr (.Call (.Attribute (.Name x p₁) ("append" : Str) apos) [v] [] p₂) p) env) (.append i mv) := fun N A env ob σ ow s o σ' E rm a q hf hE hex => by
  replace q := iP q
  obtain ⟨xv, vv, q1, q3, q⟩ := q
  replace q := i1 q
  obtain ⟨y, q4, q⟩ := q
  obtain ⟨rfl, rfl⟩ := Prod.mk.inj (Option.some.inj q)
  refine wpAny_Expr_any ?_ (quiet_env a.ev.kind) rfl
  obtain ⟨x', ad, e1, l, e2, nd, dd⟩ := a.own i xv q1
  have : x = x' := a.inj x x' i hx e1
  subst this
  have hmi : mine env ow ad := .inr (.inr ⟨i, e2⟩)
  have hlst : ∃ vs ys, s.heap.IsList ad (List.toArray vs) ∧ Et xv = some ys ∧ ys.length ≤ LIM ∧ DenL c s.heap (Ar env ob ow) ys vs ∧ ys.length < LIM := by
    cases xv <;> first | exact (nS q4).elim | skip
    · rename_i xs
      have hlt : xs.length < LIM := by cases vv <;> exact (iS q4).1
      simp only [DenT] at dd
      obtain ⟨_, vs, e, hl, hz, hdi⟩ := dd
      cases e
      exact ⟨vs, _, hl, rfl, by simpa using hz, hdi.denL, by simpa using hlt⟩
    · simp only [DenT] at dd
      obtain ⟨_, vs, e, hl, hz, hdi⟩ := dd
      cases e
      exact ⟨vs, _, hl, rfl, hz, hdi, (iS q4).1⟩
  obtain ⟨vs, ys, hli, hit, hyl, hden, hlt⟩ := hlst
  refine wpAny_Call_method (T := "list") (id := "list.append") rfl (by rw [Ao hst]; rfl) hl F.plainAttrs_list F.slot_list_append F.type_list_append (load_var (c := c) a.ev.kind hd l ⟨hli.typeIs, fun b e => ?_, ?_⟩)
  · cases e; exact nd hap
  · rw [Ao hst]
    refine Calls.callWith_builtin rfl (Calls.evalArgs_plain (Calls.spliced_cons (wpAny_mono (hv A env σ _ s vv rm a.ev q3) (fun u s₁ h₁ => Calls.spliced_nil ?_) fun _ _ q => q.elim)))
    have k := h₁.1
    have hnf := owned_fs a e2
    have hli₁ : s₁.heap.IsList ad vs.toArray := hli.at fun o e => (k.heap ad o e).1 hnf
    have hden₁ := hden.kp k.heap a.ev.fsb
    have du : Den c s₁.heap (Ar env ob ow) vv u := h₁.2.1.den (h₁.2.2.1 rfl)
    have hline := Ew
    have hvl := hden.length
    have hpl : PlainL s₁.heap ad vs.toArray := by
      obtain ⟨o, ho, hc, n, hdd⟩ := hli₁
      obtain ⟨o', ho', hnd⟩ := (nd hap).kp k.heap
      rw [ho] at ho'; cases ho'
      exact ⟨o, n, ho, hc, hnd, hdd⟩
    refine list_append_plainL hpl (fun h' hpl' hs => ?_) (by rw [List.size_toArray]; with_reducible exact (ZA ‹_› ‹_› ‹_›))
    have hl' := hpl'.isList
    have nd' : ND h' ad := by obtain ⟨o, n, ho, _, hnd, _⟩ := hpl'; exact ⟨o, ho, hnd⟩
    have cy : Ex s₁.heap h' (Ar env ob ow) (Ar env ob ow) := ⟨fun b o hb e => hs.extBut b o (fun z => hb (.inr (z ▸ hmi))) e, fun _ hb _ => hb⟩
    have hl'' : h'.IsList ad (vs ++ [u]).toArray := by simpa using hl'
    have hd' : DenL c h' (Ar env ob ow) (ys ++ [vv]) (vs ++ [u]) := DenL.carry cy _ _ (hden₁.append (by simp only [DenL]; exact ⟨u, [], rfl, du, rfl⟩))
    have dy : DenT c h' (Ar env ob ow) y (.ref ad) := by
      cases xv <;> first | exact (nS q4).elim | skip
      · rename_i xs
        simp only [Et] at hit; cases hit
        by_cases hn : ∃ n, vv = .int n
        · obtain ⟨n, rfl⟩ := hn
          obtain rfl := (iS q4).2
          simp only [DenT]
          refine ⟨ad, _, rfl, hl'', by simp at hlt ⊢; exact Nat.succ_le_of_lt ‹_›, DenI.of_denL (c := c) (h := h') (bad := Ar env ob ow) ?_ hd'⟩
          have : ∀ (l : List Int) (m : Int), Fm (l.map AV.int ++ [.int m]) = some (l ++ [m]) := by
            intro l m
            induction l with
            | nil => rfl
            | cons a r ih => rw [List.map_cons, List.cons_append, io_c, ih]; rfl
          exact this xs n
        · have : .list (xs.map .int ++ [vv]) = y := by cases vv <;> first | exact absurd ⟨_, rfl⟩ hn | exact (iS q4).2
          subst this
          simp only [DenT]
          exact ⟨ad, _, rfl, hl'', by simp at hlt ⊢; exact Nat.succ_le_of_lt ‹_›, hd'⟩
      · obtain rfl := (iS q4).2
        simp only [Et] at hit; cases hit
        simp only [DenT]
        exact ⟨ad, _, rfl, hl'', by simp at hlt ⊢; exact Nat.succ_le_of_lt ‹_›, hd'⟩
    obtain ⟨a', r⟩ := a.mut (h' := h') (y := y) k.heap e2 (fun b o hb' e => hs.extBut b o hb' e) dy (fun _ => nd')
    exact ⟨ow, rfl, a', Gl (tk := s₁.toks) k r⟩
theorem SS.raise {x : Str} {t : Str} {k : Nat} {p p₁ p₂ p₃ : Pos} (ok : c.Ok) (hg : ce.glob x = some (.ty "ValueError")) :
    SS c d ce fq (fun env => exec (.Raise (some (.Call (.Name x p₁) [.Constant (.str t) k p₂] [] p₃)) none p) env) .raise := fun N A env ob σ ow s o σ' E rm a q hf hE hex => by
  simp only [K2] at q; cases q
  refine wpAny_Raise_call PySem.F.excCall_ValueError PySem.F.excRaise_ValueError rm.handled rfl (El ok a.ev hg (Bf hg) fun u m => ?_)
  simp only [Ge] at m
  refine ⟨m, Calls.evalArgs_plain (Calls.spliced_cons (wpAny_Constant_str (k := k) (pos := p₂) (Calls.spliced_nil ⟨rfl, by simp [sizeLine], fun h' e hm => ?_⟩)))⟩
  exact hex rfl { s with toks := s.toks + 1 } h' e _ ow a (RelS.kp (.tok ..)) hm.of
end
end Mine
end
section
open PySem PyProof.Rows PySem.SeqAt
namespace Mine
set_option tactic.hygienic false
set_option autoImplicit false
theorem Ju : ∀ (fs : List Addr) {h : Heap} {b : Addr} {o : Obj}, h.get? b = some o → b ∉ fs → (Gh h fs).get? b = some o
  | [], h, b, o, e, _ => e
  | a :: r, h, b, o, e, hb => by
    show (Gh (h.hide a) r).get? b = some o
    exact Ju r (by rw [Heap.hide_ne h (fun q => hb (by rw [q]; exact List.mem_cons_self))]; exact e) fun q => hb (List.mem_cons_of_mem _ q)
theorem Jj : ∀ (fs : List Addr) {h : Heap} {b : Addr} {o : Obj}, (Gh h fs).get? b = some o → h.get? b = some o
  | [], h, b, o, e => e
  | a :: r, h, b, o, e => Heap.of_hide (Jj r (show (Gh (h.hide a) r).get? b = some o from e))
theorem Hm : ∀ (fs : List Addr) {h : Heap} {b : Addr}, b ∈ fs → (Gh h fs).get? b = none
  | [], h, b, hb => by cases hb
  | a :: r, h, b, hb => by
    show (Gh (h.hide a) r).get? b = none
    rcases List.mem_cons.mp hb with rfl | hb
    · cases q : (Gh (h.hide b) r).get? b with
      | none => rfl
      | some o => have := Jj r q; rw [Heap.hide_self] at this; cases this
    · exact Hm r hb
section
variable {c : Cx} {d : Nat} {ce : CE} {fq : Bool} {A : Around} {env : Env} {ob ob' : Addr → Prop} {ow ow₁ : Nat → Option Addr} {s s₁ : Shared} {o : Out} {σ' : St}
theorem Done.weaken {f : Flow} {s' : Shared} (hb : ∀ b, ob b → ob' b) (hf : ∀ b ∈ Ac A, ob b ∨ b = env.locals) (x : Done c A ce env ob' fq ow s o σ' f s') : Done c A ce env ob fq ow s o σ' f s' := by
  cases o with
  | exc => exact x
  | ret av =>
    obtain ⟨v, ow', h1, h2, h3, h4, h5⟩ := x
    exact ⟨v, ow', h1, h2, DenT.carryTop (bad' := ob) ⟨fun _ _ _ e => e, fun b q _ q' => q (hb b q')⟩ _ _ h3 fun _ _ _ e => e, fun b e => ⟨fun q => (h4 b e).1 (hb b q), (h4 b e).2⟩, h5⟩
  | next => obtain ⟨ow', h1, h2, h3⟩ := x; exact ⟨ow', h1, h2.weaken hb hf, h3⟩
  | brk => obtain ⟨ow', h1, h2, h3⟩ := x; exact ⟨ow', h1, h2.weaken hb hf, h3⟩
  | cont => obtain ⟨ow', h1, h2, h3⟩ := x; exact ⟨ow', h1, h2.weaken hb hf, h3⟩
theorem ExcTo.weaken {E : Value → Shared → Prop} (hb : ∀ b, ob b → ob' b) (hf : ∀ b ∈ Ac A, ob b ∨ b = env.locals) (x : ExcTo c A ce env ob ow s o σ' E) : ExcTo c A ce env ob' ow s o σ' E :=
  fun q s₂ h' ea args ow' a' r' m => x q s₂ h' ea args ow' (a'.weaken hb hf) r' m
theorem Rel.carry {fs : List Addr} {h h' : Heap} (hf : ∀ b ∈ fs, Ar env ob ow b) (r : Rel fs (mine env ow) (mine env ow₁) h h') : Ex h h' (Ar env ob ow) (Ar env ob ow₁) :=
  ⟨fun b o hb e => (r.keep b o (fun q => hb (.inr q)) e).1 fun q => hb (hf b q), fun b hb e q => q.elim (fun q => hb (.inl q)) fun q => r.nb b (fun z => hb (.inr z)) e q⟩
theorem store_all {M : Model} {E : Value → Shared → Prop} : ∀ {xs : List Str} {is : List Nat} {vs : List AV} {ws : List Value} {σ σ₁ : St} {ow : Nat → Option Addr} {s : Shared} {Q : Shared → Prop},
    mapO (fun x => ce.vm.lookup x) xs = some is → Act c A ce env ob σ ow s.heap → DenL c s.heap (Ar env ob ow) vs ws → setTgt σ is vs = some σ₁ → (∀ ow' s', Act c A ce env ob σ₁ ow' s'.heap → RelS (Ac A) (mine env ow) (mine env ow') s s' → Q s') →
    Hj M A env E xs ws Q s
  | [], is, vs, ws, σ, σ₁, ow, s, Q, hm, a, hd, ht, hQ => by
    obtain rfl := Option.some.inj hm
    cases vs with
    | nil => obtain rfl := Option.some.inj ht; exact hQ ow s a .refl
    | cons v r => exact (nS ht).elim
  | x :: xs, is, vs, ws, σ, σ₁, ow, s, Q, hm, a, hd, ht, hQ => by
    obtain ⟨i, is, h1, h2, rfl⟩ := mo_c hm
    cases vs with
    | nil => exact (nS ht).elim
    | cons v vs =>
      simp only [DenL] at hd
      obtain ⟨w, ws, rfl, hv, hr⟩ := hd
      show wpAny M A (storeName env x w) (fun _ s' => Hj M A env E xs ws Q s') E s
      refine Gq a h1 fun h' tk put => ?_
      have hnf : ∀ b, w = .ref b → b ∉ Ac A := fun b e q => hv.2 b e (a.ev.fsb b q)
      obtain ⟨a', r⟩ := a.put (own := false) (na := none) (Kp.refl _ _) put h1 hv.1 hnf (fun _ => ⟨rfl, hv.2⟩) (fun q => by cases q) (fun q => by cases q)
      have rs : RelS (Ac A) (mine env ow) (mine env (Fk ow i none)) s { s with heap := h', toks := tk } := ⟨h', tk, rfl, r⟩
      exact store_all (s := { s with heap := h', toks := tk }) h2 a' (DenL.carry (r.carry a.ev.fsb) _ _ hr) ht fun ow' s' a'' r' => hQ ow' s' a'' (rs.trans r')
inductive WhI (c : Cx) (A : Around) (ce : CE) (env : Env) (ob : Addr → Prop) (ow : Nat → Option Addr) (s : Shared) (go : Nat → St → Option (Out × St)) (r : Out × St) (k : Nat) (s' : Shared) : Prop where
  | mk (σ₁ : St) (ow₁ : Nat → Option Addr) (a : Act c A ce env ob σ₁ ow₁ s'.heap) (r₁ : RelS (Ac A) (mine env ow) (mine env ow₁) s s') (e : go k σ₁ = some r)
theorem SS.while {t : Expr} {b : List Stmt} {p : Pos} {m : ME} {mb : MS} (ht : SB c d ce t m) (hb : SS c d ce fq (fun env => execs b env) mb) : SS c d ce fq (fun env => exec (.While t b [] p) env) (.while m mb) := fun N A env ob σ ow s o σ' E rm a e hf hE hx => by
  simp only [J9] at e
  have hf1 : fq = true → Au c.fresh mb = true := fun q => hf q
  refine wpAny_While (codeAny_whileLoop (WhI c A ce env ob ow s (Ej (Bc c.G c.F m) (Ah c.G c.F N mb)) (o, σ')) ?_ N ⟨σ, ow, a, .refl, e⟩)
  rintro k s₁ ⟨σ₁, ow₁, a₁, r₁, e₁⟩
  cases k with
  | zero => simp [w_zero] at e₁
  | succ k =>
    simp only [Ip] at e₁
    cases q1 : Bc c.G c.F m σ₁ with
    | none => rw [q1] at e₁; cases e₁
    | some t' =>
      rw [q1] at e₁
      refine wpAny_mono (ht A env σ₁ _ s₁ t' rm a₁.ev q1) (fun t'' s₂ h₂ => ?_) fun _ _ q => q.elim
      obtain ⟨rfl, k₂⟩ := h₂
      have a₂ := a₁.kpS k₂
      have r₂ : RelS (Ac A) (mine env ow) (mine env ow₁) s s₂ := r₁.trans (.kp k₂)
      cases t'' with
      | false =>
        rw [if_neg (by simp)]
        cases e₁
        exact wpAny_execs_nil ⟨ow₁, rfl, a₂, r₂⟩
      | true =>
        rw [if_pos rfl]
        dsimp only at e₁
        cases q2 : Ah c.G c.F N mb σ₁ with
        | none => rw [q2] at e₁; cases e₁
        | some pr =>
          obtain ⟨o₂, σ₂⟩ := pr
          rw [q2] at e₁
          cases o₂ with
          | next =>
            refine wpAny_passesOwn hE (wpAny_mono (hb N A env ob σ₁ ow₁ s₂ .next σ₂ E rm a₂ q2 hf1 hE (fun q => by cases q)) (fun f s₃ x => ?_) fun _ _ q => q)
            obtain ⟨ow₃, rfl, a₃, r₃⟩ := x
            exact ⟨k, Nat.lt_succ_self _, σ₂, ow₃, a₃, r₂.trans r₃, e₁⟩
          | cont =>
            refine wpAny_passesOwn hE (wpAny_mono (hb N A env ob σ₁ ow₁ s₂ .cont σ₂ E rm a₂ q2 hf1 hE (fun q => by cases q)) (fun f s₃ x => ?_) fun _ _ q => q)
            obtain ⟨ow₃, rfl, a₃, r₃⟩ := x
            exact ⟨k, Nat.lt_succ_self _, σ₂, ow₃, a₃, r₂.trans r₃, e₁⟩
          | brk =>
            cases e₁
            refine wpAny_passesOwn hE (wpAny_mono (hb N A env ob σ₁ ow₁ s₂ .brk _ E rm a₂ q2 hf1 hE (fun q => by cases q)) (fun f s₃ x => ?_) fun _ _ q => q)
            obtain ⟨ow₃, rfl, a₃, r₃⟩ := x
            exact ⟨ow₃, rfl, a₃, r₂.trans r₃⟩
          | ret av =>
            cases e₁
            refine wpAny_passesOwn hE (wpAny_mono (hb N A env ob σ₁ ow₁ s₂ (.ret av) _ E rm a₂ q2 hf1 hE (fun q => by cases q)) (fun f s₃ x => ?_) fun _ _ q => q)
            have x' := x.after r₂
            obtain ⟨v, ow₃, rfl, _⟩ := x
            exact x'
          | exc =>
            cases e₁
            exact wpAny_passesOwn hE (wpAny_mono (hb N A env ob σ₁ ow₁ s₂ .exc _ E rm a₂ q2 hf1 hE (hx.after r₂)) (fun f s₃ x => x.elim) fun _ _ q => q)
inductive ForI (c : Cx) (A : Around) (ce : CE) (env : Env) (ob' : Addr → Prop) (ow : Nat → Option Addr) (s₀ : Shared) (n : Nat) (St' : Nat → Heap → Prop) (fp : List Addr) (go : Nat → St → Option (Out × St)) (r : Out × St) (k : Nat) (s' : Shared) : Prop where
  | mk (h' : Heap) (tk : Nat) (σ₁ : St) (ow₁ : Nat → Option Addr) (i : Nat) (e : s' = { s₀ with heap := h', toks := tk }) (hi : i ≤ n) (hk : k = n + 1 - i) (st : St' i h') (a : Act c A ce env ob' σ₁ ow₁ h') (r₁ : Rel (Ac A) (mine env ow) (mine env ow₁) s₀.heap h') (hm : ∀ b ∈ fp, ¬ mine env ow₁ b) (hgo : go i σ₁ = some r)
theorem SS.for {tgt it : Expr} {b : List Stmt} {p : Pos} {xs : List Str} {is : List Nat} {mi : ME} {mb : MS} (hxs : Bh tgt = some xs) (his : mapO (fun x => ce.vm.lookup x) xs = some is) (hi : SI c d ce true tgt it mi) (hu : Go it) (hb : SS c d ce fq (fun env => execs b env) mb) :
    SS c d ce fq (fun env => exec (.For tgt it b [] p) env) (.for is mi mb) := fun N A env ob σ ow s o σ' E rm a e hf hE hx => by
  have hf1 : fq = true → Au c.fresh mb = true := fun q => hf q
  replace e := i1 e
  obtain ⟨src, q1, e⟩ := e
  replace e := iL e
  obtain ⟨ys, q2, e⟩ := e
  · · refine wpAny_For (wpAny_mono (hi A env σ _ s src ys rm a.ev q1 q2) (fun x s₁ h₁ => wpAny_mono h₁ (fun itv s₂ h₂ => ?_) fun _ _ q => q.elim) fun _ _ q => q.elim) (hu env)
      obtain ⟨s₀, k₀, I, fp, wr, D, St', rfl, T, hst, k₂, hwr, hfpfs, hfpb, hfpd, hD⟩ := h₂
      have hfpb := hfpb rfl
      have a₀ := a.kpS k₀
      have hlen : is.length = xs.length := Iz his
      let ob' : Addr → Prop := fun b => ob b ∨ b ∈ wr
      have hob : ∀ b, ob b → ob' b := fun b q => .inl q
      have hwrd : ∀ b ∈ wr, s₂.heap.get? b ≠ none := fun b q => hfpd b (T.sub b q)
      have a₂ : Act c A ce env ob' σ ow s₂.heap := a₀.more k₂.heap hob (fun b q e => q.elim id fun q => absurd (hwr b q) e) fun b q => q.elim (fun q => k₂.heap.stay (a₀.ev.badD b (.inl q))) (hwrd b)
      obtain ⟨h₂, tk₂, rfl, kk₂⟩ := k₂
      refine codeAny_forLoop_any (ForI c A ce env ob' ow s₀ ys.length St' fp (fun i => Ee is (Ah c.G c.F N mb) (ys.drop i)) (o, σ')) ?_ (ys.length + 1) ⟨h₂, tk₂, σ, ow, 0, rfl, Nat.zero_le _, rfl, hst, a₂, .kp kk₂, fun b hb' q => hfpb b hb' (.inr q), by simpa using e⟩
      rintro k s₁' ⟨h', tk, σ₁, ow₁, i, rfl, hi', rfl, st, a₁, r₁, hmi, hgo⟩
      by_cases hlt : i < ys.length
      · refine T.use hlt st (fun _ _ h => h) fun val h₃ tk₃ hDv st₃ hk₃ => ?_
        -- the state after the step of the iterator
        have hwrfs : ∀ b ∈ wr, b ∉ Ac A := fun b q => hfpfs b (T.sub b q)
        have dom₃ : ∀ b, h'.get? b ≠ none → h₃.get? b ≠ none := fun b e => by
          by_cases hw : b ∈ wr
          · exact T.there _ _ st₃ b (T.sub b hw)
          · exact Fx e fun o q => ⟨_, hk₃ b o hw q⟩
        have a₃ : Act c A ce env ob' σ₁ ow₁ h₃ := a₁.outer (fun b o z e => hk₃ b o (fun q => hwrfs b q (z (.inr q))) e) dom₃
        have r₃ : Rel (Ac A) (mine env ow) (mine env ow₁) s₀.heap h₃ := {
          keep := fun b o hb' e => by
            have hw : b ∉ wr := fun q => by first | exact (nN (hwr b q) e).elim | (rw [hwr b q] at e; cases e)
            obtain ⟨x1, sl, x2⟩ := r₁.keep b o hb' e
            exact ⟨fun q => hk₃ b o hw (x1 q), sl, hk₃ b _ hw x2⟩
          nb := r₁.nb
          dom := fun b e => dom₃ b (r₁.dom b e) }
        have cy : Ex s₀.heap h₃ (Ar env ob ow) (Ar env ob' ow₁) := ⟨fun b o hb' e => (r₃.keep b o (fun q => hb' (.inr q)) e).1 fun q => hb' (a.ev.fsb b q), fun b hb' e q => by
          rcases q with (q | q) | q
          · exact hb' (.inl q)
          · exact e (hwr b q)
          · exact r₃.nb b (fun z => hb' (.inr z)) e q⟩
        obtain ⟨y, hy, dy, ny⟩ := hD i val h₃ _ cy hDv
        have hdrop : ys.drop i = y :: ys.drop (i + 1) := by
          rw [List.drop_eq_getElem_cons hlt]
          congr 1
          rw [List.getElem?_eq_getElem hlt] at hy; exact Option.some.inj hy
        rw [hdrop] at hgo
        simp only [f_cons, hlen] at hgo
        cases qb : Gb xs.length y with
        | none => rw [qb] at hgo; cases hgo
        | some vs =>
          rw [qb] at hgo
          dsimp only at hgo
          cases qs : setTgt σ₁ is vs with
          | none => rw [qs] at hgo; cases hgo
          | some σ₂ =>
            rw [qs] at hgo
            dsimp only at hgo
            obtain ⟨ws, hws, hwl, hasg⟩ := tgt_ok (A := A) hxs qb dy ny rm.handled
            refine hasg _ _ _ _ rfl fun h₄ hk₄ => ?_
            have kp₄ : Kp (Ac A) h₃ h₄ := .of hk₄
            refine store_all (s := { s₀ with heap := h₄, toks := tk₃ }) his (a₃.kp kp₄) (hws.kp kp₄ a₃.ev.fsb) qs fun ow₅ s₅ a₅ r₅ => ?_
            have r₃₅ : Rel (Ac A) (mine env ow₁) (mine env ow₅) h₃ s₅.heap := (Rel.kp kp₄).trans r₅.heap
            have fp₅ : ∀ b ∈ fp, ¬ mine env ow₅ b := fun b hb' => r₃₅.nb b (hmi b hb') (T.there _ _ st₃ b hb')
            have st₅ : St' (i + 1) s₅.heap := T.frame _ _ _ st₃ fun b hb' o e => (r₃₅.keep b o (hmi b hb') e).1 (hfpfs b hb')
            have r₀₅ := r₃.trans r₃₅
            have rs₅ : RelS (Ac A) (mine env ow) (mine env ow₅) s s₅ := by
              have : RelS (Ac A) (mine env ow) (mine env ow₅) s₀ s₅ := by
                obtain ⟨h₅, tk₅, rfl, _⟩ := r₅
                exact ⟨h₅, tk₅, rfl, r₀₅⟩
              exact (RelS.kp k₀).trans this
            cases q3 : Ah c.G c.F N mb σ₂ with
            | none => rw [q3] at hgo; cases hgo
            | some pr =>
              obtain ⟨o₃, σ₃⟩ := pr
              rw [q3] at hgo
              have again : ∀ f s₆, (∃ ow', f = f ∧ Act c A ce env ob' σ₃ ow' s₆.heap ∧ RelS (Ac A) (mine env ow₅) (mine env ow') s₅ s₆) → Ee is (Ah c.G c.F N mb) (ys.drop (i + 1)) σ₃ = some (o, σ') →
                  ∃ m, m < ys.length + 1 - i ∧ ForI c A ce env ob' ow s₀ ys.length St' fp (fun i => Ee is (Ah c.G c.F N mb) (ys.drop i)) (o, σ') m s₆ := fun (f : Unit) s₆ hq hg => by
                obtain ⟨ow₆, _, a₆, r₆⟩ := hq
                have rr := r₆.heap
                obtain ⟨h₅, tk₅, rfl, _⟩ := r₅
                obtain ⟨h₆, tk₆, rfl, _⟩ := r₆
                refine ⟨ys.length + 1 - (i + 1), by lia, h₆, tk₆, σ₃, ow₆, i + 1, rfl, hlt, rfl, ?_, a₆, r₀₅.trans rr, fun b hb' => ?_, hg⟩
                · exact T.frame _ _ _ st₅ fun b hb' o e => (rr.keep b o (fp₅ b hb') e).1 (hfpfs b hb')
                · exact rr.nb b (fp₅ b hb') (r₃₅.dom b (T.there _ _ st₃ b hb'))
              cases o₃ with
              | next =>
                refine wpAny_passesOwn hE (wpAny_mono (hb N A env ob' σ₂ ow₅ s₅ .next σ₃ E rm a₅ q3 hf1 hE (fun q => by cases q)) (fun f s₆ x => ?_) fun _ _ q => q)
                obtain ⟨ow₆, rfl, a₆, r₆⟩ := x
                exact again () s₆ ⟨ow₆, rfl, a₆, r₆⟩ hgo
              | cont =>
                refine wpAny_passesOwn hE (wpAny_mono (hb N A env ob' σ₂ ow₅ s₅ .cont σ₃ E rm a₅ q3 hf1 hE (fun q => by cases q)) (fun f s₆ x => ?_) fun _ _ q => q)
                obtain ⟨ow₆, rfl, a₆, r₆⟩ := x
                exact again () s₆ ⟨ow₆, rfl, a₆, r₆⟩ hgo
              | brk =>
                cases hgo
                refine wpAny_passesOwn hE (wpAny_mono (hb N A env ob' σ₂ ow₅ s₅ .brk _ E rm a₅ q3 hf1 hE (fun q => by cases q)) (fun f s₆ x => ?_) fun _ _ q => q)
                obtain ⟨ow₆, rfl, a₆, r₆⟩ := x
                exact ⟨ow₆, rfl, a₆.weaken hob a.fsIn, rs₅.trans r₆⟩
              | ret av =>
                cases hgo
                refine wpAny_passesOwn hE (wpAny_mono (hb N A env ob' σ₂ ow₅ s₅ (.ret av) _ E rm a₅ q3 hf1 hE (fun q => by cases q)) (fun f s₆ x => ?_) fun _ _ q => q)
                have x' := (x.after rs₅).weaken hob a.fsIn
                obtain ⟨v, ow₆, rfl, _⟩ := x
                exact x'
              | exc =>
                cases hgo
                exact wpAny_passesOwn hE (wpAny_mono (hb N A env ob' σ₂ ow₅ s₅ .exc _ E rm a₅ q3 hf1 hE ((hx.after rs₅).weaken hob a.fsIn)) (fun f s₆ x => x.elim) fun _ _ q => q)
      · have : i = ys.length := by with_reducible exact (ZE ‹_› ‹_›)
        subst this
        simp only [List.drop_length, f_nil] at hgo
        cases hgo
        refine T.done _ _ _ st fun h₃ tk₃ hk₃ => ?_
        refine wpAny_execs_nil ?_
        have hwrfs : ∀ b ∈ wr, b ∉ Ac A := fun b q => hfpfs b (T.sub b q)
        have a₃ : Act c A ce env ob _ ow₁ h₃ := a₁.shed hob a.fsIn fun b o z e => hk₃ b o (fun q => by
          have := a₀.ev.badD b (.inl (z (.inr q)))
          exact this (hwr b q)) e
        have r₃ : Rel (Ac A) (mine env ow) (mine env ow₁) s₀.heap h₃ := {
          keep := fun b o hb' e => by
            have hw : b ∉ wr := fun q => by first | exact (nN (hwr b q) e).elim | (rw [hwr b q] at e; cases e)
            obtain ⟨x1, sl, x2⟩ := r₁.keep b o hb' e
            exact ⟨fun q => hk₃ b o hw (x1 q), sl, hk₃ b _ hw x2⟩
          nb := r₁.nb
          dom := fun b e => by
            have hw : b ∉ wr := fun q => e (hwr b q)
            have := r₁.dom b e
            cases q : h'.get? b with
            | none => exact absurd q this
            | some o => rw [hk₃ b o hw q]; simp }
        refine ⟨ow₁, rfl, a₃, (RelS.kp k₀).trans ⟨h₃, tk₃, rfl, r₃⟩⟩
end
end Mine
end
section
open PySem PyProof.Rows PySem.SeqAt
namespace Mine
set_option tactic.hygienic false
set_option autoImplicit false
section
variable {c : Cx} {d : Nat} {ce : CE} {fq : Bool}
theorem kp_flying {A : Around} {h h' h'' : Heap} {l : List Env} {ea : Addr} {cls a0 : Value} (fr : FrOk A h) (k : Kp (Ac A) h h') (fl : Heap.FlyingW (Gh h (Ac A)) l ea cls a0 h'') (up : h'.UpToSlots h'') : Kp (Ac A) h h'' := fun b o e => by
  by_cases hb : b ∈ Ac A
  · refine ⟨fun q => absurd hb q, ?_⟩
    obtain ⟨_, sl, e'⟩ := k b o e
    unfold Ac at hb
    cases hA : A.frames with
    | none => rw [hA] at hb; simp at hb
    | some l' =>
      rw [hA] at hb
      obtain ⟨env, he, hf⟩ := List.mem_filterMap.mp hb
      obtain ⟨_, L, o', f2, f3, f4⟩ := fr l' hA env he
      rw [f2] at hf; cases hf
      rw [e] at f3; cases f3
      obtain ⟨sl', e''⟩ := up b _ e' f4
      exact ⟨sl', e''⟩
  · have := fl.1 b o (Ju _ e hb)
    exact ⟨fun _ => this, o.slots, this⟩
theorem try_exc {ve x : Str} {j : Nat} {v : Bool} {kk : Nat} {p1 p2 p3 p4 p5 : Pos} {A : Around} {env : Env} {ob : Addr → Prop} {σ : St} {ow : Nat → Option Addr} {s s₁ s' : Shared} {e : Value} {E : Value → Shared → Prop} {Q : Flow → Shared → Prop}
    (ok : c.Ok) (hg : ce.glob ve = some (.ty "ValueError")) (hx : ce.vm.lookup x = some j) (a : Act c A ce env ob σ ow s.heap) (k : KpS (Ac A) s s₁) (hex : ExcPost c A s₁ e s')
    (hQ : ∀ ow' s'', Act c A ce env ob (σ.set j (some (false, .bool v))) ow' s''.heap → RelS (Ac A) (mine env ow) (mine env ow') s s'' → Q .next s'') :
    wpAny (model c.prog c.w) A (noteFrame e env) (fun _ s₂ => wpAny (model c.prog c.w) A (setFlight e none) (fun _ s₃ => wpAny (model c.prog c.w) A (handleBy e env [.ExceptHandler (some (.Name ve p1)) none [.Assign [.Name x p2] (.Constant (.bool v) kk p3) p4] p5]) Q E s₃) E s₂) E s' := by
  obtain ⟨ea, a0, l, h', tk, rfl, hl, rfl, kp, fl⟩ := hex
  obtain ⟨⟨outer, hfr⟩, hfm⟩ := a.top
  rw [hfr] at hl; cases hl
  have a₁ := a.kpS k
  refine wpAny_looks_onW hfr hfm fl fun h₄ held₄ up₄ => ?_
  refine wpAny_landsW held₄ fun h₅ fl₅ up₅ => ?_
  have up₅' := up₄.trans up₅
  have kp₅ : Kp (Ac A) s₁.heap h₅ := kp_flying a₁.ev.fr kp fl₅ up₅'
  obtain ⟨obj, hobj, hcls⟩ := fl₅.there
  refine wpAny_handleBy_builtin (X := "ValueError") (T := "ValueError") (b := true) PySem.F.isExc_ValueError PySem.F.notTuple_ValueError PySem.F.self_ValueError ?_
  refine El (A := A) (ce := ce) ok (a₁.kp kp₅).ev hg (Bf hg) fun u m => ?_
  simp only [Ge] at m
  refine ⟨m, ⟨obj, hobj, hcls⟩, ?_⟩
  rw [if_pos rfl]
  refine lands_againW fl₅ fun h₆ fl₆ up₆ => ?_
  have kp₆ : Kp (Ac A) s₁.heap h₆ := kp_flying a₁.ev.fr kp fl₆ (up₅'.trans up₆)
  have k₆ : KpS (Ac A) s { s₁ with heap := h₆, toks := tk } := k.trans (.mk _ _ _ kp₆)
  refine wpAny_execs_cons (wpAny_Assign_Name (wpAny_Constant_bool ?_) rfl)
  refine Gq (A := A) (s := { s₁ with heap := h₆, toks := tk }) (a₁.kp kp₆) hx fun h₇ tk₇ put => ?_
  obtain ⟨a', r⟩ := a.put (own := false) (na := none) (av := .bool v) k₆.heap put hx (by simp [DenT]) (by intro b e; cases e) (fun _ => ⟨rfl, by intro b e; cases e⟩) (fun q => by cases q) (fun q => by cases q)
  exact wpAny_execs_nil (hQ _ _ a' (Gl k₆ r))
theorem SS.tryA {ve x y : Str} {e : Expr} {es : List Expr} {f : Str} {fi i j : Nat} {fr : Bool} {v : Bool} {kk : Nat} {args : ME} {p p1 p2 p3 p4 p5 p6 p7 p8 p9 : Pos}
    (ok : c.Ok) (hF : ∀ f args r, c.F f args = some r → FnOk c d f args r) (hg : ce.glob ve = some (.ty "ValueError")) (hx : ce.vm.lookup x = some j) (hy : ce.vm.lookup y = some i) (hf : ce.glob f = some (.fn fi fr)) (hst : Ai e = true) (ha : SL c d ce (e :: es) args) :
    SS c d ce fq (fun env => exec (.Try [.Assign [.Name y p6] (.Call (.Name f p7) (e :: es) [] p8) p9] [.ExceptHandler (some (.Name ve p1)) none [.Assign [.Name x p2] (.Constant (.bool v) kk p3) p4] p5] [] [] p) env) (.tryA (some i) fi args j v) :=
  fun N A env ob σ ow s o σ' E rm a q hfq hE hex => by
  replace q := iT q
  obtain ⟨avs, q1, q⟩ := q
  · cases q2 : c.F fi avs with
    | none => rw [q2] at q; cases q
    | some r =>
      rw [q2] at q
      refine wpAny_Try_except (wpAny_execs_cons (wpAny_Assign_Name (wpAny_mono (call_def ok hF p8 p7 (Bf hf) hf hst ha rm a.ev q1 q2) (fun u s₁ h₁ => ?_) fun ex s' h => ?_) rfl))
      · obtain ⟨z, rfl, k, dn, n, _⟩ := h₁
        cases q
        refine Gq (a.kpS k) hy fun h' tk put => ?_
        obtain ⟨a', r⟩ := a.put (own := false) (na := none) k.heap put hy dn.1 dn.2 (fun _ => ⟨rfl, n rfl⟩) (fun q => by cases q) (fun q => by cases q)
        exact wpAny_execs_nil (wpAny_execs_nil ⟨_, rfl, a', Gl k r⟩)
      · obtain ⟨s₁, k, rfl, hx'⟩ := h
        cases q
        exact try_exc ok hg hx a k hx' fun ow' s'' a' r => ⟨ow', rfl, a', r⟩
theorem SS.tryE {ve x : Str} {e : Expr} {es : List Expr} {f : Str} {fi j : Nat} {fr : Bool} {v : Bool} {kk : Nat} {args : ME} {p p1 p2 p3 p4 p5 p7 p8 p9 : Pos}
    (ok : c.Ok) (hF : ∀ f args r, c.F f args = some r → FnOk c d f args r) (hg : ce.glob ve = some (.ty "ValueError")) (hx : ce.vm.lookup x = some j) (hf : ce.glob f = some (.fn fi fr)) (hst : Ai e = true) (ha : SL c d ce (e :: es) args) :
    SS c d ce fq (fun env => exec (.Try [.Expr (.Call (.Name f p7) (e :: es) [] p8) p9] [.ExceptHandler (some (.Name ve p1)) none [.Assign [.Name x p2] (.Constant (.bool v) kk p3) p4] p5] [] [] p) env) (.tryA none fi args j v) :=
  fun N A env ob σ ow s o σ' E rm a q hfq hE hex => by
  replace q := iT q
  obtain ⟨avs, q1, q⟩ := q
  · cases q2 : c.F fi avs with
    | none => rw [q2] at q; cases q
    | some r =>
      rw [q2] at q
      refine wpAny_Try_except (wpAny_execs_cons (wpAny_Expr_any (wpAny_mono (call_def ok hF p8 p7 (Bf hf) hf hst ha rm a.ev q1 q2) (fun u s₁ h₁ => ?_) fun ex s' h => ?_) (quiet_env a.ev.kind) rfl))
      · obtain ⟨z, rfl, _⟩ := h₁
        cases q
      · obtain ⟨s₁, k, rfl, hx'⟩ := h
        cases q
        exact try_exc ok hg hx a k hx' fun ow' s'' a' r => ⟨ow', rfl, a', r⟩
theorem SS.assignC (ok : c.Ok) {x : Str} {i : Nat} {elt tgt it : Expr} {ifs : List Expr} {scope : Scope} {pp p p' : Pos} {xs : List Str} {me mi mt : ME} (hx : ce.vm.lookup x = some i) (ht : Bh tgt = some xs) (sc : ScOk ce.scope scope xs) (hu : Go it) (hi : SI c d ce false tgt it mi) (he : SE c d (Bd ce scope xs) true elt me) (hT : ST c d (Bd ce scope xs) ifs mt) :
    SS c d ce fq (fun env => exec (.Assign [.Name x p'] (.ListComp elt [⟨tgt, it, ifs, 0⟩] scope pp) p) env) (.assign i (.comp me xs.length mi mt)) := by
  intro N A env ob σ ow s o σ' E rm a q hf hE hex
  replace q := i1 q
  obtain ⟨av, q1, q⟩ := q
  obtain ⟨rfl, rfl⟩ := Prod.mk.inj (Option.some.inj q)
  exact comp_put false (fun q => by cases q) ok hx ht sc hu hi he hT rm a q1 fun ow' s' a' r => ⟨ow', rfl, a', r⟩
theorem SS.assignFC (ok : c.Ok) {x : Str} {i : Nat} {elt tgt it : Expr} {ifs : List Expr} {scope : Scope} {pp p p' : Pos} {xs : List Str} {me mi mt : ME} (hx : ce.vm.lookup x = some i) (hap : ce.ap.contains i = false) (ht : Bh tgt = some xs) (sc : ScOk ce.scope scope xs) (hu : Go it) (hi : SI c d ce false tgt it mi) (he : SE c d (Bd ce scope xs) true elt me) (hT : ST c d (Bd ce scope xs) ifs mt) :
    SS c d ce fq (fun env => exec (.Assign [.Name x p'] (.ListComp elt [⟨tgt, it, ifs, 0⟩] scope pp) p) env) (.assignF i (.comp me xs.length mi mt)) := by
  intro N A env ob σ ow s o σ' E rm a q hf hE hex
  replace q := i1 q
  obtain ⟨av, q1, q⟩ := q
  replace q := iS q
  obtain ⟨_, q⟩ := q
  obtain ⟨rfl, rfl⟩ := Prod.mk.inj q
  exact comp_put true (fun _ => hap) ok hx ht sc hu hi he hT rm a q1 fun ow' s' a' r => ⟨ow', rfl, a', r⟩
set_option genCtorIdx false in
inductive JobS where
  | st (s : Stmt)
  | sts (l : List Stmt)
noncomputable abbrev JobS.ctorIdx (x : JobS) : Nat := @JobS.casesOn (fun _ => Nat) x (fun _ => 0) (fun _ => 1)
structure RulesS (cs : CS) (P : JobS → MS → Prop) : Prop where
  nil : P (.sts []) .skip
  cons : ∀ {s r a b} (ha : P (.st s) a) (hb : P (.sts r) b), P (.sts (s :: r)) (.seq a b)
  assign : ∀ {x p' e p i m} (l : List Nat) (hx : cs.vm.lookup x = some i) (hs : Ib e = true) (h : Comp (.ex cs.toCE true e) m), P (.st (.Assign [.Name x p'] e p)) (fzAll l (.assign i m))
  assignF : ∀ {x p' e p i m} (l : List Nat) (hx : cs.vm.lookup x = some i) (hap : cs.ap.contains i = false) (hs : Ib e = true) (hfr : Ig cs.fresh m = true) (h : Comp (.ex cs.toCE true e) m), P (.st (.Assign [.Name x p'] e p)) (fzAll l (.assignF i m))
  assignC : ∀ {x p' elt tgt it ifs scope pp p i xs me mi mt} (l : List Nat) (hx : cs.vm.lookup x = some i) (ht : Bh tgt = some xs) (hsc : Eo cs.scope scope xs = true) (hi : Comp (.it cs.toCE false tgt it) mi) (he : Comp (.ex (Bd cs.toCE scope xs) true elt) me) (hT : Comp (.ts (Bd cs.toCE scope xs) ifs) mt), P (.st (.Assign [.Name x p'] (.ListComp elt [⟨tgt, it, ifs, 0⟩] scope pp) p)) (fzAll l (.assign i (.comp me xs.length mi mt)))
  assignFC : ∀ {x p' elt tgt it ifs scope pp p i xs me mi mt} (l : List Nat) (hx : cs.vm.lookup x = some i) (hap : cs.ap.contains i = false) (ht : Bh tgt = some xs) (hsc : Eo cs.scope scope xs = true) (hi : Comp (.it cs.toCE false tgt it) mi) (he : Comp (.ex (Bd cs.toCE scope xs) true elt) me) (hT : Comp (.ts (Bd cs.toCE scope xs) ifs) mt), P (.st (.Assign [.Name x p'] (.ListComp elt [⟨tgt, it, ifs, 0⟩] scope pp) p)) (fzAll l (.assignF i (.comp me xs.length mi mt)))
  assignL : ∀ {x p' es p'' p i m} (l : List Nat) (hx : cs.vm.lookup x = some i) (h : Comp (.li cs.toCE es) m), P (.st (.Assign [.Name x p'] (.List es p'') p)) (fzAll l (.assignL i m))
  store : ∀ {x p₁ k p₂ v p i mk mv} (l : List Nat) (hap : cs.ap.contains i = false) (hd : (x == ("__debug__" : Str)) = false) (hx : cs.vm.lookup x = some i) (hk : Comp (.ex cs.toCE false k) mk) (hv : Comp (.ex cs.toCE true v) mv), P (.st (.Assign [.Subscript (.Name x p₁) k p₂] v p)) (fzAll l (.store i mk mv))
  append : ∀ {x p₁ meth apos a pos p i m} (l : List Nat) (hm : meth = ("append" : Str)) (hap : cs.ap.contains i = true) (hl : (apos.endLine == pos.line) = true) (hd : (x == ("__debug__" : Str)) = false) (hs : Ai a = true) (hx : cs.vm.lookup x = some i) (h : Comp (.ex cs.toCE true a) m), P (.st (.Expr (.Call (.Attribute (.Name x p₁) meth apos) [a] [] pos) p)) (fzAll l (.append i m))
  ite : ∀ {t b o p m mb mo} (l : List Nat) (ht : Comp (.ex cs.toCE false t) m) (hb : P (.sts b) mb) (ho : P (.sts o) mo), P (.st (.If t b o p)) (fzAll l (.ite m mb mo))
  «while» : ∀ {t b p m mb} (ht : Comp (.ex cs.toCE false t) m) (hb : P (.sts b) mb), P (.st (.While t b [] p)) (.while m mb)
  «for» : ∀ {tgt it b p xs is mi mb} (l : List Nat) (hx : Bh tgt = some xs) (his : mapO (fun x => cs.vm.lookup x) xs = some is) (hi : Comp (.it cs.toCE true tgt it) mi) (hb : P (.sts b) mb), P (.st (.For tgt it b [] p)) (fzAll l (.for is mi mb))
  ret : ∀ {e p m} (l : List Nat) (h : Comp (.ex cs.toCE true e) m), P (.st (.Return (some e) p)) (fzAll l (.ret m))
  raise : ∀ {ve p₁ t k p₂ p₃ p} (hg : cs.glob ve = some (.ty "ValueError")), P (.st (.Raise (some (.Call (.Name ve p₁) [.Constant (.str t) k p₂] [] p₃)) none p)) .raise
  tryA : ∀ {y p6 f p7 e es p8 p9 ve p1 x p2 v kk p3 p4 p5 p i j fi fr m} (l : List Nat) (hg : cs.glob ve = some (.ty "ValueError")) (hx : cs.vm.lookup x = some j) (hy : cs.vm.lookup y = some i) (hf : cs.glob f = some (.fn fi fr)) (hs : Ai e = true) (h : Comp (.li cs.toCE (e :: es)) m), P (.st (.Try [.Assign [.Name y p6] (.Call (.Name f p7) (e :: es) [] p8) p9] [.ExceptHandler (some (.Name ve p1)) none [.Assign [.Name x p2] (.Constant (.bool v) kk p3) p4] p5] [] [] p)) (fzAll l (.tryA (some i) fi m j v))
  tryE : ∀ {f p7 e es p8 p9 ve p1 x p2 v kk p3 p4 p5 p j fi fr m} (l : List Nat) (hg : cs.glob ve = some (.ty "ValueError")) (hx : cs.vm.lookup x = some j) (hf : cs.glob f = some (.fn fi fr)) (hs : Ai e = true) (h : Comp (.li cs.toCE (e :: es)) m), P (.st (.Try [.Expr (.Call (.Name f p7) (e :: es) [] p8) p9] [.ExceptHandler (some (.Name ve p1)) none [.Assign [.Name x p2] (.Constant (.bool v) kk p3) p4] p5] [] [] p)) (fzAll l (.tryA none fi m j v))
  brk : ∀ {p}, P (.st (.Break p)) .brk
  cont : ∀ {p}, P (.st (.Continue p)) .cont
noncomputable def Ef (cs : CS) (j : JobS) (m : MS) : Prop := ∀ P : JobS → MS → Prop, RulesS cs P → P j m
theorem Ef.nil {cs : CS}  : Ef cs (.sts []) .skip := fun P R => R.nil 
theorem Ef.cons {cs : CS} {s r a b} (ha : Ef cs (.st s) a) (hb : Ef cs (.sts r) b) : Ef cs (.sts (s :: r)) (.seq a b) := fun P R => R.cons (ha P R) (hb P R)
theorem Ef.assign {cs : CS} {x p' e p i m} (l : List Nat) (hx : cs.vm.lookup x = some i) (hs : Ib e = true) (h : Comp (.ex cs.toCE true e) m) : Ef cs (.st (.Assign [.Name x p'] e p)) (fzAll l (.assign i m)) := fun P R => R.assign l hx hs h
theorem Ef.assignF {cs : CS} {x p' e p i m} (l : List Nat) (hx : cs.vm.lookup x = some i) (hap : cs.ap.contains i = false) (hs : Ib e = true) (hfr : Ig cs.fresh m = true) (h : Comp (.ex cs.toCE true e) m) : Ef cs (.st (.Assign [.Name x p'] e p)) (fzAll l (.assignF i m)) := fun P R => R.assignF l hx hap hs hfr h
theorem Ef.assignC {cs : CS} {x p' elt tgt it ifs scope pp p i xs me mi mt} (l : List Nat) (hx : cs.vm.lookup x = some i) (ht : Bh tgt = some xs) (hsc : Eo cs.scope scope xs = true) (hi : Comp (.it cs.toCE false tgt it) mi) (he : Comp (.ex (Bd cs.toCE scope xs) true elt) me) (hT : Comp (.ts (Bd cs.toCE scope xs) ifs) mt) : Ef cs (.st (.Assign [.Name x p'] (.ListComp elt [⟨tgt, it, ifs, 0⟩] scope pp) p)) (fzAll l (.assign i (.comp me xs.length mi mt))) := fun P R => R.assignC l hx ht hsc hi he hT
theorem Ef.assignFC {cs : CS} {x p' elt tgt it ifs scope pp p i xs me mi mt} (l : List Nat) (hx : cs.vm.lookup x = some i) (hap : cs.ap.contains i = false) (ht : Bh tgt = some xs) (hsc : Eo cs.scope scope xs = true) (hi : Comp (.it cs.toCE false tgt it) mi) (he : Comp (.ex (Bd cs.toCE scope xs) true elt) me) (hT : Comp (.ts (Bd cs.toCE scope xs) ifs) mt) : Ef cs (.st (.Assign [.Name x p'] (.ListComp elt [⟨tgt, it, ifs, 0⟩] scope pp) p)) (fzAll l (.assignF i (.comp me xs.length mi mt))) := fun P R => R.assignFC l hx hap ht hsc hi he hT
theorem Ef.assignL {cs : CS} {x p' es p'' p i m} (l : List Nat) (hx : cs.vm.lookup x = some i) (h : Comp (.li cs.toCE es) m) : Ef cs (.st (.Assign [.Name x p'] (.List es p'') p)) (fzAll l (.assignL i m)) := fun P R => R.assignL l hx h
theorem Ef.store {cs : CS} {x p₁ k p₂ v p i mk mv} (l : List Nat) (hap : cs.ap.contains i = false) (hd : (x == ("__debug__" : Str)) = false) (hx : cs.vm.lookup x = some i) (hk : Comp (.ex cs.toCE false k) mk) (hv : Comp (.ex cs.toCE true v) mv) : Ef cs (.st (.Assign [.Subscript (.Name x p₁) k p₂] v p)) (fzAll l (.store i mk mv)) := fun P R => R.store l hap hd hx hk hv
theorem Ef.append {cs : CS} {x p₁ meth apos a pos p i m} (l : List Nat) (hm : meth = ("append" : Str)) (hap : cs.ap.contains i = true) (hl : (apos.endLine == pos.line) = true) (hd : (x == ("__debug__" : Str)) = false) (hs : Ai a = true) (hx : cs.vm.lookup x = some i) (h : Comp (.ex cs.toCE true a) m) : Ef cs (.st (.Expr (.Call (.Attribute (.Name x p₁) meth apos) [a] [] pos) p)) (fzAll l (.append i m)) := fun P R => R.append l hm hap hl hd hs hx h
theorem Ef.ite {cs : CS} {t b o p m mb mo} (l : List Nat) (ht : Comp (.ex cs.toCE false t) m) (hb : Ef cs (.sts b) mb) (ho : Ef cs (.sts o) mo) : Ef cs (.st (.If t b o p)) (fzAll l (.ite m mb mo)) := fun P R => R.ite l ht (hb P R) (ho P R)
theorem Ef.«while» {cs : CS} {t b p m mb} (ht : Comp (.ex cs.toCE false t) m) (hb : Ef cs (.sts b) mb) : Ef cs (.st (.While t b [] p)) (.while m mb) := fun P R => R.«while» ht (hb P R)
theorem Ef.«for» {cs : CS} {tgt it b p xs is mi mb} (l : List Nat) (hx : Bh tgt = some xs) (his : mapO (fun x => cs.vm.lookup x) xs = some is) (hi : Comp (.it cs.toCE true tgt it) mi) (hb : Ef cs (.sts b) mb) : Ef cs (.st (.For tgt it b [] p)) (fzAll l (.for is mi mb)) := fun P R => R.«for» l hx his hi (hb P R)
theorem Ef.ret {cs : CS} {e p m} (l : List Nat) (h : Comp (.ex cs.toCE true e) m) : Ef cs (.st (.Return (some e) p)) (fzAll l (.ret m)) := fun P R => R.ret l h
theorem Ef.raise {cs : CS} {ve p₁ t k p₂ p₃ p} (hg : cs.glob ve = some (.ty "ValueError")) : Ef cs (.st (.Raise (some (.Call (.Name ve p₁) [.Constant (.str t) k p₂] [] p₃)) none p)) .raise := fun P R => R.raise hg
theorem Ef.tryA {cs : CS} {y p6 f p7 e es p8 p9 ve p1 x p2 v kk p3 p4 p5 p i j fi fr m} (l : List Nat) (hg : cs.glob ve = some (.ty "ValueError")) (hx : cs.vm.lookup x = some j) (hy : cs.vm.lookup y = some i) (hf : cs.glob f = some (.fn fi fr)) (hs : Ai e = true) (h : Comp (.li cs.toCE (e :: es)) m) : Ef cs (.st (.Try [.Assign [.Name y p6] (.Call (.Name f p7) (e :: es) [] p8) p9] [.ExceptHandler (some (.Name ve p1)) none [.Assign [.Name x p2] (.Constant (.bool v) kk p3) p4] p5] [] [] p)) (fzAll l (.tryA (some i) fi m j v)) := fun P R => R.tryA l hg hx hy hf hs h
theorem Ef.tryE {cs : CS} {f p7 e es p8 p9 ve p1 x p2 v kk p3 p4 p5 p j fi fr m} (l : List Nat) (hg : cs.glob ve = some (.ty "ValueError")) (hx : cs.vm.lookup x = some j) (hf : cs.glob f = some (.fn fi fr)) (hs : Ai e = true) (h : Comp (.li cs.toCE (e :: es)) m) : Ef cs (.st (.Try [.Expr (.Call (.Name f p7) (e :: es) [] p8) p9] [.ExceptHandler (some (.Name ve p1)) none [.Assign [.Name x p2] (.Constant (.bool v) kk p3) p4] p5] [] [] p)) (fzAll l (.tryA none fi m j v)) := fun P R => R.tryE l hg hx hf hs h
theorem Ef.brk {cs : CS} {p} : Ef cs (.st (.Break p)) .brk := fun P R => R.brk 
theorem Ef.cont {cs : CS} {p} : Ef cs (.st (.Continue p)) .cont := fun P R => R.cont 
noncomputable def runS : JobS → Env → Sem Flow
  | .st s, env => exec s env
  | .sts l, env => execs l env
theorem soundS (ok : c.Ok) (hF : ∀ f args r, c.F f args = some r → FnOk c d f args r) {cs : CS} (hfr : cs.fresh = c.fresh) {j : JobS} {m : MS} (h : Ef cs j m) : SS c d cs.toCE fq (runS j) m := by
  have g : ∀ {j : Job} {m : ME}, Comp j m → Means c d j m := soundE ok hF
  exact h (fun j m => SS c d cs.toCE fq (runS j) m) {
    nil := SS.nil
    cons := fun ia ib => SS.cons ia ib
    assign := fun l hx hs h => SS.fzAll _ (SS.assign1 hx (g h).1 (swPlain_is hs _ _ _))
    assignF := fun l hx hap hs hf h => SS.fzAll _ (SS.assignF1 hx hap (g h).1 (by rw [← hfr]; exact hf) (swPlain_is hs _ _ _))
    assignC := fun l hx ht hsc hi he hT => SS.fzAll _ (SS.assignC ok hx ht (ScOk.of hsc) (g hi).2 (g hi).1 (g he).1 (g hT))
    assignFC := fun l hx hap ht hsc hi he hT => SS.fzAll _ (SS.assignFC ok hx hap ht (ScOk.of hsc) (g hi).2 (g hi).1 (g he).1 (g hT))
    assignL := fun l hx h => SS.fzAll _ (SS.assignL hx (g h))
    store := fun l hap hd hx hk hv => SS.fzAll _ (SS.store hap hd hx (g hk).1 (g hv).1)
    append := fun l hm hap hl hd hs hx h => by subst hm; exact SS.fzAll _ (SS.append hap hl hd hs hx (g h).1)
    ite := fun l ht ib io => SS.fzAll _ (SS.ite ((g ht).2 rfl) ib io)
    «while» := fun ht ib => SS.while ((g ht).2 rfl) ib
    «for» := fun l hx his hi ib => SS.fzAll _ (SS.for hx his (g hi).1 (g hi).2 ib)
    ret := fun l h => SS.fzAll _ (SS.ret (g h).1)
    raise := fun hg => SS.raise ok hg
    tryA := fun l hg hx hy hf hs h => SS.fzAll _ (SS.tryA ok hF hg hx hy hf hs (g h))
    tryE := fun l hg hx hf hs h => SS.fzAll _ (SS.tryE ok hF hg hx hf hs (g h))
    brk := SS.brk
    cont := SS.cont }
end
abbrev RS (cs : CS) (j : JobS) : Type := Option { m : MS // Ef cs j m }
noncomputable def fzL (c : CS) (m : List ME) : List Nat := ((m.flatMap caps).filter (c.mu.contains ·)).eraseDups
noncomputable def fuel : Nat := 64
noncomputable def sList {cs : CS} (f : (s : Stmt) → RS cs (.st s)) : (l : List Stmt) → RS cs (.sts l)
  | [] => some ⟨.skip, .nil⟩
  | s :: r => (f s).bind fun a => (sList f r).map fun b => ⟨.seq a.1 b.1, .cons a.2 b.2⟩
noncomputable def sAssign (cs : CS) (x : Str) (p' : Pos) (e : Expr) (p : Pos) : RS cs (.st (.Assign [.Name x p'] e p)) :=
  match hx : cs.vm.lookup x with
  | none => none
  | some i => match hap : cs.ap.contains i with
    | true => (match e with
      | .List es p'' => (cLi (Ez fuel) cs.toCE es).map fun m => ⟨_, .assignL (fzL cs [m.1]) hx m.2⟩
      | .ListComp elt [⟨tgt, it, ifs, 0⟩] scope pp => none
      | e => if hs : Ib e = true then (Ez fuel cs.toCE true e).map fun m => ⟨_, .assign (fzL cs [m.1]) hx hs m.2⟩ else none)
    | false => (match e with
      | .ListComp elt [⟨tgt, it, ifs, 0⟩] scope pp => (match ht : Bh tgt with
        | some xs => if hsc : Eo cs.scope scope xs = true then (cIt (Ez (fuel - 1)) cs.toCE false tgt it).bind fun mi => (Ez (fuel - 1) (Bd cs.toCE scope xs) true elt).bind fun me => (cTs (Ez (fuel - 1)) (Bd cs.toCE scope xs) ifs).map fun mt =>
            if cs.mu.contains i then ⟨_, .assignFC (fzL cs [.comp me.1 xs.length mi.1 mt.1]) hx hap ht hsc mi.2 me.2 mt.2⟩ else ⟨_, .assignC (fzL cs [.comp me.1 xs.length mi.1 mt.1]) hx ht hsc mi.2 me.2 mt.2⟩ else none
        | none => none)
      | e => if hs : Ib e = true then (Ez fuel cs.toCE true e).map fun m => if hf : Ig cs.fresh m.1 = true then (if cs.mu.contains i then ⟨_, .assignF (fzL cs [m.1]) hx hap hs hf m.2⟩ else ⟨_, .assign (fzL cs [m.1]) hx hs m.2⟩) else ⟨_, .assign (fzL cs [m.1]) hx hs m.2⟩ else none)
noncomputable def sStore (cs : CS) (x : Str) (p₁ : Pos) (k : Expr) (p₂ : Pos) (v : Expr) (p : Pos) : RS cs (.st (.Assign [.Subscript (.Name x p₁) k p₂] v p)) :=
  match hx : cs.vm.lookup x with
  | none => none
  | some i => if hap : cs.ap.contains i = false then if hd : (x == ("__debug__" : Str)) = false then (Ez fuel cs.toCE false k).bind fun mk => (Ez fuel cs.toCE true v).map fun mv => ⟨_, .store (fzL cs [mv.1]) hap hd hx mk.2 mv.2⟩ else none else none
noncomputable def sAppend (cs : CS) (x : Str) (p₁ : Pos) (meth : Str) (apos : Pos) (a : Expr) (pos p : Pos) : RS cs (.st (.Expr (.Call (.Attribute (.Name x p₁) meth apos) [a] [] pos) p)) :=
  match hx : cs.vm.lookup x with
  | none => none
  | some i => if hm : meth = ("append" : Str) then if hap : cs.ap.contains i = true then if hl : (apos.endLine == pos.line) = true then if hd : (x == ("__debug__" : Str)) = false then if hs : Ai a = true then (Ez fuel cs.toCE true a).map fun m => ⟨_, .append (fzL cs [m.1]) hm hap hl hd hs hx m.2⟩ else none else none else none else none else none
noncomputable def sTry (cs : CS) (b : Stmt) (ve : Str) (p1 : Pos) (x : Str) (p2 : Pos) (v : Bool) (kk : Nat) (p3 p4 p5 p : Pos) : RS cs (.st (.Try [b] [.ExceptHandler (some (.Name ve p1)) none [.Assign [.Name x p2] (.Constant (.bool v) kk p3) p4] p5] [] [] p)) :=
  match hg : cs.glob ve with
  | some (.ty "ValueError") => (match hx : cs.vm.lookup x with
    | none => none
    | some j => (match b with
      | .Assign [.Name y p6] (.Call (.Name f p7) (e :: es) [] p8) p9 => (match hy : cs.vm.lookup y with
        | none => none
        | some i => (match hf : cs.glob f with
          | some (.fn fi fr) => if hs : Ai e = true then (cLi (Ez (fuel - 1)) cs.toCE (e :: es)).map fun m => ⟨_, .tryA (fzL cs [m.1]) hg hx hy hf hs m.2⟩ else none
          | _ => none))
      | .Expr (.Call (.Name f p7) (e :: es) [] p8) p9 => (match hf : cs.glob f with
          | some (.fn fi fr) => if hs : Ai e = true then (cLi (Ez (fuel - 1)) cs.toCE (e :: es)).map fun m => ⟨_, .tryE (fzL cs [m.1]) hg hx hf hs m.2⟩ else none
          | _ => none)
      | _ => none))
  | _ => none
noncomputable def compS (cs : CS) : (n : Nat) → (s : Stmt) → RS cs (.st s)
  | 0, _ => none
  | n + 1, s => match s with
    | .Assign [.Name x p'] e p => sAssign cs x p' e p
    | .Assign [.Subscript (.Name x p₁) k p₂] v p => sStore cs x p₁ k p₂ v p
    | .Expr (.Call (.Attribute (.Name x p₁) meth apos) [a] [] pos) p => sAppend cs x p₁ meth apos a pos p
    | .If t b o p => (Ez fuel cs.toCE false t).bind fun m => (sList (compS cs n) b).bind fun mb => (sList (compS cs n) o).map fun mo => ⟨_, .ite (fzL cs [m.1]) m.2 mb.2 mo.2⟩
    | .While t b [] p => (Ez fuel cs.toCE false t).bind fun m => (sList (compS cs n) b).map fun mb => ⟨_, .while m.2 mb.2⟩
    | .For tgt it b [] p => (match hx : Bh tgt with
      | none => none
      | some xs => (match his : mapO (fun x => cs.vm.lookup x) xs with
        | none => none
        | some is => (cIt (Ez fuel) cs.toCE true tgt it).bind fun mi => (sList (compS cs n) b).map fun mb => ⟨_, .for (fzL cs [mi.1]) hx his mi.2 mb.2⟩))
    | .Return (some e) p => (Ez fuel cs.toCE true e).map fun m => ⟨_, .ret (fzL cs [m.1]) m.2⟩
    | .Raise (some (.Call (.Name ve p₁) [.Constant (.str t) k p₂] [] p₃)) none p => (match hg : cs.glob ve with
      | some (.ty "ValueError") => some ⟨_, .raise hg⟩
      | _ => none)
    | .Try [b] [.ExceptHandler (some (.Name ve p1)) none [.Assign [.Name x p2] (.Constant (.bool v) kk p3) p4] p5] [] [] p => sTry cs b ve p1 x p2 v kk p3 p4 p5 p
    | .Break p => some ⟨_, .brk⟩
    | .Continue p => some ⟨_, .cont⟩
    | _ => none
noncomputable def csOf (gt : List (Str × GK)) (fresh : Nat → Bool) (mu ap : List Str) (sc : Scope) : CS :=
  { scope := sc, vm := (Ep sc).zipIdx, n := (Ep sc).length, gt := gt, mu := mu.filterMap (fun x => (Ep sc).zipIdx.lookup x), ap := ap.filterMap (fun x => (Ep sc).zipIdx.lookup x), fresh := fresh }
noncomputable def compF (gt : List (Str × GK)) (fresh : Nat → Bool) (mu ap : List Str) (args : Arguments) (body : List Stmt) (sc : Scope) : Option MF :=
  if (args.args.map (·.arg)).length ≤ (Ep sc).length && (Ep sc).take (args.args.map (·.arg)).length == args.args.map (·.arg) && sc.kind == .function && sc.names.all (fun p => sc.names.lookup p.1 == some p.2) then
    (sList (compS (csOf gt fresh mu ap sc) 16) body).map fun ms => ⟨(args.args.map (·.arg)).length, (Ep sc).length, ms.1⟩
  else none
end Mine
end
section
open PySem PyProof.Rows PySem.SeqAt
namespace Mine
set_option tactic.hygienic false
set_option autoImplicit false
theorem bindL_get {kindOf : Str → Option NameKind} : ∀ {ps : List Str} {vs : List Value} {m : Str → Option Value} {i : Nat} {x : Str} {v : Value}, ps.Nodup → kindOf x = some .local → ps[i]? = some x → vs[i]? = some v → bindL kindOf (ps.zip vs) m x = some v
  | [], vs, m, i, x, v, _, _, h, _ => by simp at h
  | p :: ps, [], m, i, x, v, _, _, _, h => by simp at h
  | p :: ps, w :: vs, m, i, x, v, hn, hk, h1, h2 => by
    simp only [List.zip_cons_cons, bindL]
    have other : ∀ {ps : List Str} {vs : List Value} {m : Str → Option Value}, x ∉ ps → bindL kindOf (ps.zip vs) m x = m x := by
      intro ps
      induction ps with
      | nil => intro vs m _; simp [bindL]
      | cons q r ih =>
        intro vs m hx
        cases vs with
        | nil => simp [bindL]
        | cons u us =>
          simp only [List.zip_cons_cons, bindL]
          rw [ih (fun z => hx (List.mem_cons_of_mem _ z))]
          split
          · exact if_neg (fun z => hx (by rw [z]; exact List.mem_cons_self))
          · rfl
    cases i with
    | zero =>
      simp at h1 h2; subst h1 h2
      rw [other (List.nodup_cons.mp hn).1, if_pos hk]; simp
    | succ i =>
      simp at h1 h2
      exact bindL_get (List.nodup_cons.mp hn).2 hk h1 h2
theorem bindC_get {kindOf : Str → Option NameKind} : ∀ {ps : List Str} {vs : List Value} {m : Str → Option Value} {i : Nat} {x : Str} {v : Value}, ps.Nodup → kindOf x = some .cell → ps[i]? = some x → vs[i]? = some v → bindC kindOf (ps.zip vs) m x = some v
  | [], vs, m, i, x, v, _, _, h, _ => by simp at h
  | p :: ps, [], m, i, x, v, _, _, _, h => by simp at h
  | p :: ps, w :: vs, m, i, x, v, hn, hk, h1, h2 => by
    simp only [List.zip_cons_cons, bindC]
    have other : ∀ {ps : List Str} {vs : List Value} {m : Str → Option Value}, x ∉ ps → bindC kindOf (ps.zip vs) m x = m x := by
      intro ps
      induction ps with
      | nil => intro vs m _; simp [bindC]
      | cons q r ih =>
        intro vs m hx
        cases vs with
        | nil => simp [bindC]
        | cons u us =>
          simp only [List.zip_cons_cons, bindC]
          rw [ih (fun z => hx (List.mem_cons_of_mem _ z))]
          split
          · rfl
          · exact if_neg (fun z => hx (by rw [z]; exact List.mem_cons_self))
    cases i with
    | zero =>
      simp at h1 h2; subst h1 h2
      rw [other (List.nodup_cons.mp hn).1, if_neg (by rw [hk]; decide)]; simp
    | succ i =>
      simp at h1 h2
      exact bindC_get (List.nodup_cons.mp hn).2 hk h1 h2
set_option tactic.hygienic true in
theorem Hs : ∀ (names : List (Str × NameKind)) (n : Nat) (acc : List (Str × Addr)), (∀ q ∈ acc, q ∈ cellsFrom n names acc) ∧ ∀ x, (x, NameKind.cell) ∈ names → ∃ a, (x, a) ∈ cellsFrom n names acc
  | [], n, acc => ⟨fun _ h => h, fun _ h => by cases h⟩
  | (y, k) :: r, n, acc => by
    unfold cellsFrom
    split
    · have ih := Hs r (n + 1) ((y, n) :: acc)
      refine ⟨fun q hq => ih.1 q (List.mem_cons_of_mem _ hq), fun x hx => ?_⟩
      rcases List.mem_cons.mp hx with e | hx
      · cases e; exact ⟨n, ih.1 _ List.mem_cons_self⟩
      · exact ih.2 x hx
    · rename_i hk
      have ih := Hs r n acc
      refine ⟨ih.1, fun x hx => ?_⟩
      rcases List.mem_cons.mp hx with e | hx
      · cases e; simp at hk
      · exact ih.2 x hx
inductive FnV (c : Cx) (f : Nat) (ps : List Str) (body : List Stmt) (sc : Scope) : Prop where
  | mk (o : Obj) (fd : FuncData) (ho : c.hG.get? (c.fa f) = some o) (hd : o.data = .func fd) (hb : fd.body = .stmts body) (hs : fd.scope = sc) (hg : fd.globals = mainGlobals) (hbl : fd.builtins = builtinsNs) (hc : fd.closure = []) (hr : c.hG.CodeRec fd.code fd.qualname) (hbi : ∀ vs : List Value, vs.length = ps.length → bindArgs fd ⟨vs, []⟩ = pure (ps.zip vs))
structure FnIs (c : Cx) (f : Nat) (ps : List Str) (body : List Stmt) (sc : Scope) : Prop where
  is : FnV c f ps body sc
  gen : sc.isGenerator = false
  cor : sc.isCoroutine = false
noncomputable def initS (mf : MF) (args : List AV) : St := args.map (fun v => some (false, v)) ++ List.replicate (mf.nslots - args.length) none
noncomputable def Iw : Out → Option Res
  | .ret v => some (.val v)
  | .exc => some .exc
  | _ => none
theorem framesOf_deeper {A : Around} {env : Env} {l : List Env} {L : Addr} (h : A.frames = some l) (hf : env.frame = some L) : Ac (A.deeper env) = L :: Ac A := by
  unfold Ac Around.deeper
  simp [h, hf]
structure RoomW (A : Around) (d : Nat) : Prop where
  handled : A.handled = none
  depth : A.depth + d + 110 < recursionLimit
  units : A.units + 4 * d + 100 < cLine
  frames : ∃ l, A.frames = some l
noncomputable def FnOkW (c : Cx) (d : Nat) (f : Nat) (args : List AV) (r : Res) : Prop :=
  ∀ (A : Around) (s : Shared) (vs : List Value) (bad : Addr → Prop), RoomW A d → FrOk A s.heap → (∀ b o, c.hG.get? b = some o → s.heap.get? b = some o) → (∀ b, bad b → c.hG.get? b = none) → (∀ b, bad b → s.heap.get? b ≠ none) →
    (∀ b ∈ Ac A, bad b) → DenL c s.heap bad args vs →
    wpAny (model c.prog c.w) A (call (.ref (c.fa f)) vs) (ResPost c A bad (c.fresh f) s r) (ResExc c A s r) s
set_option tactic.hygienic true in
theorem fn_runW {c : Cx} {d f : Nat} {ps : List Str} {args : Arguments} {body : List Stmt} {sc : Scope} {mf : MF} {fresh : Nat → Bool} {mu ap : List Str} (ok : c.Ok) (hF : ∀ f args r, c.F f args = some r → FnOk c d f args r) (fi : FnIs c f ps body sc) (hps : args.args.map (·.arg) = ps) (hnd : ps.Nodup) (hfr : fresh = c.fresh)
    (hc : compF c.gt fresh mu ap args body sc = some mf) (hrf : c.fresh f = true → Au c.fresh mf.body = true) {avs : List AV} {N : Nat} {o : Out} {σ' : St} {r : Res} (hlen : avs.length = mf.nargs) (hrun : Ah c.G c.F N mf.body (initS mf avs) = some (o, σ')) (hres : Iw o = some r) : FnOkW c (d + 1) f avs r := by
  unfold compF at hc
  split at hc
  · rename_i hchk
    rw [Option.map_eq_some_iff] at hc
    obtain ⟨⟨ms, hms⟩, _, rfl⟩ := hc
    simp only [Bool.and_eq_true, decide_eq_true_eq, beq_iff_eq, List.all_eq_true] at hchk
    obtain ⟨⟨⟨hle, htake⟩, hkind⟩, huniq⟩ := hchk
    rw [hps] at hle htake hlen
    have hlen : avs.length = ps.length := by simpa using hlen
    have hS : SS c d (csOf c.gt fresh mu ap sc).toCE (c.fresh f) (fun env => execs body env) ms := soundS ok hF (cs := csOf c.gt fresh mu ap sc) hfr hms
    generalize hcs : csOf c.gt fresh mu ap sc = cs at hS
    intro A s vs bad rm fr ground badG badD fsb den
    obtain ⟨⟨ob, fd, ho, hdata, hbody, hscope, hglob, hblt, hclos, hcode, hbind⟩, hgen, hcor⟩ := fi
    have hvl : vs.length = ps.length := by rw [den.length, hlen]
    obtain ⟨l, hA⟩ := rm.frames
    have kindOf_of : ∀ x, x ∈ Ep sc → sc.names.lookup x = some .local ∨ sc.names.lookup x = some .cell := fun x hx => by
      unfold Ep at hx
      obtain ⟨p, hp, rfl⟩ := List.mem_map.mp hx
      obtain ⟨hp1, hp2⟩ := List.mem_filter.mp hp
      have := huniq p hp1
      simp only [Bool.or_eq_true, beq_iff_eq] at hp2
      rcases hp2 with e | e
      · left; rw [this, e]
      · right; rw [this, e]
    have psIn : ∀ (i : Nat) (x : Str), ps[i]? = some x → (Ep sc)[i]? = some x := fun i x h => by
      have h' : ((Ep sc).take ps.length)[i]? = some x := by rw [htake]; exact h
      have hi := (List.getElem?_eq_some_iff.mp h).1
      rwa [List.getElem?_take_of_lt hi] at h'
    refine wpAny_call (codeAny_call_function (by have := rm.depth; lia) (ground _ _ ho) hdata (by rw [hscope]; exact hcor) (by rw [hscope]; exact hgen) hbody (hcode.keeps ground) ?_)
    rw [hbind vs hvl]
    refine wpAny_pure ?_
    rw [hscope, hglob, hblt, hclos]
    have cellIn : ∀ n x, sc.names.lookup x = some .cell → ∃ a, (cellsFrom n sc.names []).lookup x = some a := fun n x h => by
      obtain ⟨a, ha⟩ := (Hs sc.names n []).2 x (Bm h)
      exact Hq ha
    refine wpAny_newFunctionEnv_cells hkind (fun x hx => ?_) fun env henv s₂ inc => ?_
    · have : x.1 ∈ ps := (List.of_mem_zip hx).1
      obtain ⟨i, hi⟩ := List.getElem?_of_mem this
      rcases kindOf_of x.1 (List.mem_of_getElem? (psIn i _ hi)) with h | h
      · exact .inl h
      · obtain ⟨a, ha⟩ := cellIn (s.heap.objs.size + 1) x.1 h
        exact .inr ⟨h, by rw [ha]; rfl⟩
    have hes : env.scope = sc := by rw [henv]; rfl
    have heg : env.globals = mainGlobals := by rw [henv]; rfl
    have heb : env.builtins = builtinsNs := by rw [henv]; rfl
    have hel : env.locals = s.heap.objs.size := by rw [henv]; rfl
    have hef : env.frame = some env.locals := by rw [henv]; rfl
    have hec : env.cells = cellsFrom (s.heap.objs.size + 1) sc.names [] := by rw [henv]; rfl
    have hkk : ∀ x, env.kindOf x = sc.names.lookup x := fun x => by unfold Env.kindOf; rw [hes]
    obtain ⟨⟨⟨h₂, tk₂, rfl⟩, hns, hkeep, _⟩, hcell, hapart, habove⟩ := inc
    dsimp only at hns hkeep hcell
    have hLnone : s.heap.get? env.locals = none := by rw [hel]; exact Ba _
    have hcnone : ∀ x a, env.cells.lookup x = some a → s.heap.get? a = none := fun x a e => by
      have := habove x a (Bm e)
      exact Heap.get?_none_of_le (by rw [hel] at this; exact Nat.le_of_lt this)
    have hfs : Ac (A.deeper env) = env.locals :: Ac A := framesOf_deeper hA hef
    have room' : Room (A.deeper env) d := {
      handled := rm.handled
      depth := by have := rm.depth; show A.depth + 1 + d + 110 < recursionLimit; lia
      units := by have := rm.units; show A.units + 3 + 4 * d + 100 < cLine; lia
      frames := ⟨env, l, by unfold Around.deeper; simp [hA], by rw [hes]; exact hgen, by rw [hes]; exact hcor, heb, heg⟩ }
    have mfresh : ∀ b, mine env (fun _ => none) b → s.heap.get? b = none := fun b q => by
      rcases q with q | ⟨x, q⟩ | ⟨i, q⟩
      · rw [q]; exact hLnone
      · exact hcnone x b q
      · cases q
    have mthere : ∀ b, mine env (fun _ => none) b → h₂.get? b ≠ none := fun b q => by
      rcases q with q | ⟨x, q⟩ | ⟨i, q⟩
      · obtain ⟨o, _, _, e, _⟩ := hns; rw [q, e]; simp
      · obtain ⟨o, e, _⟩ := hcell x b q; rw [e]; simp
      · cases q
    have vmeq : cs.toCE.vm = (Ep sc).zipIdx := by rw [← hcs]; rfl
    have act : Act c (A.deeper env) cs.toCE env bad (initS ⟨ps.length, (Ep sc).length, ms⟩ avs) (fun _ => none) h₂ := {
      ev := {
        kind := by rw [hes]; exact hkind
        globs := heg
        blts := heb
        gk := fun x h => by rw [← hcs] at h; rw [hkk]; exact h
        ck := fun x h => by
          rw [← hcs] at h
          obtain ⟨a, ha⟩ := cellIn (s.heap.objs.size + 1) x h
          exact ⟨by rw [hkk]; exact h, a, by rw [hec]; exact ha⟩
        ground := fun b o e => hkeep b o (ground b o e)
        badG := fun b q => q.elim (badG b) fun q => by
          cases e : c.hG.get? b with
          | none => rfl
          | some o => have := mfresh b q; rw [ground b o e] at this; cases this
        badD := fun b q => q.elim (fun q => by
          have := badD b q
          cases e : s.heap.get? b with
          | none => exact absurd e this
          | some o => rw [hkeep b o e]; simp) (mthere b)
        fsb := fun b q => by
          rw [hfs] at q
          rcases List.mem_cons.mp q with q | q
          · exact .inr (.inl q)
          · exact .inl (fsb b q)
        fr := fun l' hl' e he => by
          have : l' = env :: l := by
            have h1 : (A.deeper env).frames = some (env :: l) := by unfold Around.deeper; simp [hA]
            rw [h1] at hl'; exact (Option.some.inj hl').symm
          subst this
          rcases List.mem_cons.mp he with rfl | he
          · obtain ⟨o, es, ep, e1, e2, _⟩ := hns
            exact ⟨by rw [hes, hkind]; decide, _, o, hef, e1, fun vs q => by first | exact (nN (e2) q).elim | (rw [e2] at q; cases q)⟩
          · obtain ⟨g1, L, o, g2, g3, g4⟩ := fr l hA e he
            exact ⟨g1, L, o, g2, hkeep L o g3, g4⟩
        n := by rw [← hcs]; simp only [csOf]; simp only [initS, List.length_append, List.length_map, List.length_replicate, hlen]; lia
        gt := by rw [← hcs]; rfl
        vb := fun x i h => by
          rw [vmeq] at h
          rw [← hcs]; simp only [csOf]
          have := (Bn h).2
          exact (List.getElem?_eq_some_iff.mp this).1
        var := fun x i own av h1 h2 => by
          rw [vmeq] at h1
          have hx := (Bn h1).2
          simp only [Nat.sub_zero] at hx
          unfold initS at h2
          by_cases hi : i < avs.length
          · rw [List.getElem?_append_left (by simpa using hi), List.getElem?_map] at h2
            cases q : avs[i]? with
            | none => rw [q] at h2; cases h2
            | some z =>
              rw [q] at h2; cases h2
              obtain ⟨v, hv, dv⟩ := den.get q
              have hpx : ps[i]? = some x := by
                have : i < ps.length := by lia
                have h3 := psIn i _ (List.getElem?_eq_getElem this)
                rw [hx] at h3; rw [List.getElem?_eq_getElem this]; exact h3.symm
              have hk := kindOf_of x (List.mem_of_getElem? hx)
              have dv' : Den c h₂ (Ar env bad fun _ => none) av v := dv.carry ⟨fun b o _ e => hkeep b o e, fun b hb e q => q.elim hb fun q => e (mfresh b q)⟩
              refine ⟨v, ?_, dv'.r fun b q => ?_, fun _ => dv'.2⟩
              · rcases hk with hk | hk
                · exact .inl ⟨by rw [hkk]; exact hk, _, hns, bindL_get hnd (by rw [hkk]; exact hk) hpx hv⟩
                · obtain ⟨a, ha⟩ := cellIn (s.heap.objs.size + 1) x hk
                  have ha' : env.cells.lookup x = some a := by rw [hec]; exact ha
                  have := hcell x a ha'
                  rw [bindC_get hnd (by rw [hkk]; exact hk) hpx hv] at this
                  exact .inr ⟨by rw [hkk]; exact hk, a, ha', this⟩
              · rw [hfs] at q
                rcases List.mem_cons.mp q with q | q
                · exact .inr (.inl q)
                · exact .inl (fsb b q)
          · rw [List.getElem?_append_right (by simpa using hi)] at h2
            rw [List.getElem?_replicate] at h2
            split at h2 <;> cases h2 }
      ns := ⟨_, hns⟩
      kinds := fun x i h => by
        rw [vmeq] at h
        have hx := (Bn h).2
        simp only [Nat.sub_zero] at hx
        rcases kindOf_of x (List.mem_of_getElem? hx) with hk | hk
        · exact .inl (by rw [hkk]; exact hk)
        · obtain ⟨a, ha⟩ := cellIn (s.heap.objs.size + 1) x hk
          have ha' : env.cells.lookup x = some a := by rw [hec]; exact ha
          exact .inr ⟨by rw [hkk]; exact hk, a, _, ha', hcell x a ha'⟩
      inj := fun x y i h1 h2 => by
        rw [vmeq] at h1 h2
        have e1 := (Bn h1).2
        have e2 := (Bn h2).2
        rw [e1] at e2; exact Option.some.inj e2
      cells := fun x y a h1 h2 => name_of_addr hapart (Bm h1) (Bm h2)
      cellL := fun x a h e => by
        have := habove x a (Bm h)
        rw [e] at this; exact Nat.lt_irrefl _ this
      own := fun i av h => by
        unfold initS at h
        by_cases hi : i < avs.length
        · rw [List.getElem?_append_left (by simpa using hi), List.getElem?_map] at h
          cases q : avs[i]? with
          | none => rw [q] at h; cases h
          | some z => rw [q] at h; cases h
        · rw [List.getElem?_append_right (by simpa using hi), List.getElem?_replicate] at h
          split at h <;> cases h
      ow1 := fun i a h => by cases h
      ow2 := fun i j a h => by cases h
      fsIn := fun b q => by
        rw [hfs] at q
        rcases List.mem_cons.mp q with q | q
        · exact .inr q
        · exact .inl (fsb b q)
      obN := fun b q q' => badD b q' (mfresh b (q.elim .inl fun q => .inr (.inl q)))
      top := ⟨⟨l, by unfold Around.deeper; simp [hA]⟩, hef⟩ }
    -- what the callee kept, seen from the caller
    have back : ∀ {ow' : Nat → Option Addr} {h' : Heap}, Rel (Ac (A.deeper env)) (mine env fun _ => none) (mine env ow') h₂ h' → Kp (Ac A) s.heap h' := fun {ow' h'} r b o e => by
      have hb : ¬ mine env (fun _ => none) b := fun q => by first | exact (nN (mfresh b q) e).elim | (rw [mfresh b q] at e; cases e)
      obtain ⟨k1, sl, k2⟩ := r.keep b o hb (hkeep b o e)
      refine ⟨fun q => k1 (by rw [hfs]; intro z; rcases List.mem_cons.mp z with z | z; exact hb (.inl z); exact q z), sl, k2⟩
    refine ⟨ok.nolimit.keeps fun b o e => hkeep b o (ground b o e), codeAny_func ?_⟩
    refine wpAny_mono (hS N (A.deeper env) env bad _ (fun _ => none) _ o σ' _ room' act hrun hrf PassesOwn.leaving ?_) (fun fl s' x => ?_) fun _ _ q => q
    · -- it raises
      intro hexc s₁ h' ea cargs ow' a₁ r₁ made
      subst hexc
      simp only [Iw] at hres; cases hres
      have kp₁ := back r₁.heap
      have hfrs : (A.deeper env).frames = some (env :: l) := by unfold Around.deeper; simp [hA]
      have stay : (Gh s.heap (Ac A)).StaysIn s₁.heap := fun b o e => by
        have hb : b ∉ Ac A := fun q => by first | exact (nN (Hm _ q) e).elim | (rw [Hm _ q] at e; cases e)
        exact (kp₁ b o (Jj _ e)).1 hb
      have funf : ∀ (ls : List Env), (∀ e ∈ ls, e ∈ env :: l) → s₁.heap.FunFrames (Gh s.heap (Ac A)) ls := by
        intro ls
        induction ls with
        | nil => intro _; trivial
        | cons e r ih =>
          intro hin
          obtain ⟨g1, L, o, g2, g3, g4⟩ := a₁.ev.fr _ hfrs e (hin e List.mem_cons_self)
          refine ⟨g1, ⟨L, o, g2, ?_, g3, g4⟩, ih fun e' he' => hin e' (List.mem_cons_of_mem _ he')⟩
          rcases List.mem_cons.mp (hin e List.mem_cons_self) with q | q
          · subst q
            rw [hef] at g2; cases g2
            cases z : (Gh s.heap (Ac A)).get? e.locals with
            | none => rfl
            | some o' => have := Jj _ z; rw [hLnone] at this; cases this
          · refine Hm _ ?_
            unfold Ac; rw [hA]; exact List.mem_filterMap.mpr ⟨e, q, g2⟩
      obtain ⟨h₁, tk₁, rfl, rr⟩ := r₁
      refine wpAny_leaves_madeW (base := Gh s.heap (Ac A)) hfrs hef stay (funf _ fun _ h => h) made fun h'' t fly tup hnone up => ?_
      refine ⟨rfl, ea, _, l, h'', _, rfl, hA, rfl, ?_, fly⟩
      intro b o e
      by_cases hb : b ∈ Ac A
      · refine ⟨fun q => absurd hb q, ?_⟩
        obtain ⟨_, sl, e'⟩ := kp₁ b o e
        have e'' := made.keeps b _ e'
        unfold Ac at hb; rw [hA] at hb
        obtain ⟨en, hen, hfe⟩ := List.mem_filterMap.mp hb
        obtain ⟨_, L, o', g2, g3, g4⟩ := fr l hA en hen
        rw [g2] at hfe; cases hfe
        rw [e] at g3; cases g3
        obtain ⟨sl', q⟩ := up b _ e'' g4
        exact ⟨sl', q⟩
      · have := fly.1 b o (Ju _ e hb)
        exact ⟨fun _ => this, o.slots, this⟩
    · -- it returns
      cases o with
      | ret av =>
        simp only [Iw] at hres; cases hres
        obtain ⟨v, ow', rfl, r₁, dv, nb, frs⟩ := x
        have kp₁ := back r₁.heap
        obtain ⟨h₁, tk₁, rfl, rr⟩ := r₁
        refine ⟨av, rfl, ⟨h₁, tk₁, rfl, kp₁⟩, ⟨dv, fun b e q => (nb b e).2 (by rw [hfs]; exact List.mem_cons_of_mem _ q)⟩, fun _ b e => (nb b e).1, fun q b e => ?_⟩
        have := frs q b e
        cases z : s.heap.get? b with
        | none => rfl
        | some o => rw [hkeep b o z] at this; cases this
      | exc => exact x.elim
      | next => simp [Iw] at hres
      | brk => simp [Iw] at hres
      | cont => simp [Iw] at hres
  · cases hc
theorem FnOkW.strong {c : Cx} {d f : Nat} {args : List AV} {r : Res} (h : FnOkW c d f args r) : FnOk c d f args r := fun A s vs bad rm =>
  h A s vs bad ⟨rm.handled, rm.depth, rm.units, let ⟨e, l, h, _⟩ := rm.frames; ⟨e :: l, h⟩⟩
theorem fn_run {c : Cx} {d f : Nat} {ps : List Str} {args : Arguments} {body : List Stmt} {sc : Scope} {mf : MF} {fresh : Nat → Bool} {mu ap : List Str} (ok : c.Ok) (hF : ∀ f args r, c.F f args = some r → FnOk c d f args r) (fi : FnIs c f ps body sc) (hps : args.args.map (·.arg) = ps) (hnd : ps.Nodup) (hfr : fresh = c.fresh)
    (hc : compF c.gt fresh mu ap args body sc = some mf) (hrf : c.fresh f = true → Au c.fresh mf.body = true) {avs : List AV} {N : Nat} {o : Out} {σ' : St} {r : Res} (hlen : avs.length = mf.nargs) (hrun : Ah c.G c.F N mf.body (initS mf avs) = some (o, σ')) (hres : Iw o = some r) : FnOk c (d + 1) f avs r :=
  (fn_runW ok hF fi hps hnd hfr hc hrf hlen hrun hres).strong
section
variable {c : Cx} {g : Nat → List AV → Option Res}
mutual
theorem DenT.cg {h : Heap} {bad : Addr → Prop} : ∀ (x : AV) (v : Value), DenT c h bad x v ↔ DenT { c with F := g } h bad x v
  | .none, _ => by simp only [DenT]
  | .bool b, _ => by simp only [DenT]
  | .int i, _ => by simp only [DenT]
  | .str x, _ => by simp only [DenT]
  | .ilist xs, v => by simp only [DenT]
  | .list xs, v => by simp only [DenT]; rw [show DenL c h bad xs = DenL { c with F := g } h bad xs from funext fun vs => propext (DenL.cg xs vs)]
  | .tup xs, v => by simp only [DenT]; rw [show DenL c h bad xs = DenL { c with F := g } h bad xs from funext fun vs => propext (DenL.cg xs vs)]
  | .plist xs, v => by simp only [DenT]
theorem DenL.cg {h : Heap} {bad : Addr → Prop} : ∀ (xs : List AV) (vs : List Value), DenL c h bad xs vs ↔ DenL { c with F := g } h bad xs vs
  | [], vs => by simp only [DenL]
  | x :: r, vs => by simp only [DenL, DenT.cg x]; rw [show DenL c h bad r = DenL { c with F := g } h bad r from funext fun vs => propext (DenL.cg r vs)]
end
theorem PE.cg {fs : List Addr} {bad : Addr → Prop} {cap fr : Bool} {s s' : Shared} {z : AV} {r : Value} : PE c fs bad cap fr s z r s' ↔ PE { c with F := g } fs bad cap fr s z r s' := by
  unfold PE DenR
  rw [DenT.cg (g := g)]
theorem FnOk.cg {d f : Nat} {args : List AV} {r : Res} (h : FnOk c d f args r) : FnOk { c with F := g } d f args r := fun A s vs bad rm fr ground badG badD fsb den => by
  refine wpAny_mono (h A s vs bad rm fr ground badG badD fsb ((DenL.cg (g := g) _ _).mpr den)) (fun v s' x => ?_) fun _ _ x => x
  obtain ⟨y, e, p⟩ := x
  exact ⟨y, e, PE.cg.mp p⟩
theorem FnOk.cg' {d f : Nat} {args : List AV} {r : Res} (h : FnOk { c with F := g } d f args r) : FnOk c d f args r := fun A s vs bad rm fr ground badG badD fsb den => by
  refine wpAny_mono (h A s vs bad rm fr ground badG badD fsb ((DenL.cg (g := g) _ _).mp den)) (fun v s' x => ?_) fun _ _ x => x
  obtain ⟨y, e, p⟩ := x
  exact ⟨y, e, PE.cg.mpr p⟩
theorem FnOkW.cg' {d f : Nat} {args : List AV} {r : Res} (h : FnOkW { c with F := g } d f args r) : FnOkW c d f args r := fun A s vs bad rm fr ground badG badD fsb den => by
  refine wpAny_mono (h A s vs bad rm fr ground badG badD fsb ((DenL.cg (g := g) _ _).mp den)) (fun v s' x => ?_) fun _ _ x => x
  obtain ⟨y, e, p⟩ := x
  exact ⟨y, e, PE.cg.mpr p⟩
theorem Cx.Ok.cg (ok : c.Ok) : ({ c with F := g } : Cx).Ok := {
  glob := fun x k h => by
    obtain ⟨v, h1, h2⟩ := ok.glob x k h
    refine ⟨v, h1, ?_⟩
    cases k with
    | tab => exact fun av e => ⟨(DenT.cg (g := g) _ _).mp (h2 av e).1, (h2 av e).2⟩
    | fn i b => exact h2
    | bi id => exact h2
    | ty n => exact h2
  nolimit := ok.nolimit
  seer := ok.seer
  tree := ok.tree
  digits := ok.digits }
end
structure FnTab (c : Cx) (fs : List (Option MF)) : Prop where
  fn : ∀ f mf, fs[f]? = some (some mf) → ∃ ps mu ap args body sc, FnIs c f ps body sc ∧ args.args.map (·.arg) = ps ∧ ps.Nodup ∧ compF c.gt c.fresh mu ap args body sc = some mf ∧ (c.fresh f = true → Au c.fresh mf.body = true)
end Mine
end
section
open PySem
namespace Mine
-- _trim: slots [a, n]
noncomputable def b0c0 : ME := (.and (.cmp .gt (.rd 1) (.lit (.int 0))) (.cmp .eq (.idx (.rd 0) (.bin .sub (.rd 1) (.lit (.int 1)))) (.lit (.int 0))))
noncomputable def b0d0 : MS := (.seq (.assign 1 (.bin .sub (.rd 1) (.lit (.int 1))))
 .skip)
noncomputable def b0 : MF := ⟨1, 2,
 (.seq (.assign 1 (.f1 .len (.rd 0)))
 (.seq (.while b0c0 b0d0)
 (.seq (.ret (.f1 .list (.sliceTo (.rd 0) (.rd 1))))
 .skip)))⟩
-- _gcd_int: slots [x, y, r]
noncomputable def b1c0 : ME := (.cmp .ne (.rd 1) (.lit (.int 0)))
noncomputable def b1d0 : MS := (.seq (.assign 2 (.bin .mod (.rd 0) (.rd 1)))
 (.seq (.assign 0 (.var 1))
 (.seq (.assign 1 (.var 2))
 .skip)))
noncomputable def b1 : MF := ⟨2, 3,
 (.seq (.assign 0 (.f1 .abs (.rd 0)))
 (.seq (.assign 1 (.f1 .abs (.rd 1)))
 (.seq (.while b1c0 b1d0)
 (.seq (.ret (.var 0))
 .skip))))⟩
-- _exact_divide: slots [a, b, rest, size, q, m, s, k]
noncomputable def b2d1 : MS := (.seq (.store 2 (.bin .add (.rd 7) (.rd 6)) (.bin .sub (.idx (.rd 2) (.bin .add (.rd 7) (.rd 6))) (.bin .mul (.rd 5) (.idx (.rd 1) (.rd 7)))))
 .skip)
noncomputable def b2c0 : ME := (.cmp .ge (.f1 .len (.rd 2)) (.f1 .len (.rd 1)))
noncomputable def b2d0 : MS := (.seq (.ite (.cmp .ne (.bin .mod (.idx (.rd 2) (.neg (.lit (.int 1)))) (.idx (.rd 1) (.neg (.lit (.int 1))))) (.lit (.int 0))) (.seq (.ret (.lit .none))
 .skip) .skip)
 (.seq (.assign 5 (.bin .fdiv (.idx (.rd 2) (.neg (.lit (.int 1)))) (.idx (.rd 1) (.neg (.lit (.int 1))))))
 (.seq (.assign 6 (.bin .sub (.f1 .len (.rd 2)) (.f1 .len (.rd 1))))
 (.seq (.store 4 (.rd 6) (.var 5))
 (.seq (.for [7] (.range (.lit (.int 0)) (.f1 .len (.rd 1)) (.lit (.int 1))) b2d1)
 (.seq (.fz 2 (.assignF 2 (.call 0 (.cons (.var 2) .nil))))
 (.seq (.ite (.not (.rd 2)) (.seq .brk
 .skip) .skip)
 .skip)))))))
noncomputable def b2 : MF := ⟨2, 8,
 (.seq (.assignF 2 (.f1 .list (.rd 0)))
 (.seq (.assign 3 (.bin .add (.bin .sub (.f1 .len (.rd 0)) (.f1 .len (.rd 1))) (.lit (.int 1))))
 (.seq (.ite (.cmp .lt (.rd 3) (.lit (.int 0))) (.seq (.assign 3 (.lit (.int 0)))
 .skip) .skip)
 (.seq (.assignF 4 (.bin .mul (.list (.cons (.lit (.int 0)) .nil)) (.rd 3)))
 (.seq (.while b2c0 b2d0)
 (.seq (.ite (.rd 2) (.seq (.ret (.lit .none))
 .skip) .skip)
 (.seq (.fz 4 (.ret (.call 0 (.cons (.var 4) .nil))))
 .skip)))))))⟩
-- _positive_rem: slots [x, y, z, lc, alc, sg, m, s, k]
noncomputable def b3d1 : MS := (.seq (.store 2 (.bin .add (.rd 8) (.rd 7)) (.bin .sub (.idx (.rd 2) (.bin .add (.rd 8) (.rd 7))) (.bin .mul (.rd 6) (.idx (.rd 1) (.rd 8)))))
 .skip)
noncomputable def b3c0 : ME := (.cmp .ge (.f1 .len (.rd 2)) (.f1 .len (.rd 1)))
noncomputable def b3d0 : MS := (.seq (.assign 6 (.bin .mul (.idx (.rd 2) (.neg (.lit (.int 1)))) (.rd 5)))
 (.seq (.assign 7 (.bin .sub (.f1 .len (.rd 2)) (.f1 .len (.rd 1))))
 (.seq (.assignF 2 (.comp (.bin .mul (.rd 4) (.rd 9)) 1 (.rd 2) (.lit (.bool true))))
 (.seq (.for [8] (.range (.lit (.int 0)) (.f1 .len (.rd 1)) (.lit (.int 1))) b3d1)
 (.seq (.fz 2 (.assignF 2 (.call 0 (.cons (.var 2) .nil))))
 .skip)))))
noncomputable def b3 : MF := ⟨2, 9,
 (.seq (.assignF 2 (.f1 .list (.rd 0)))
 (.seq (.assign 3 (.idx (.rd 1) (.neg (.lit (.int 1)))))
 (.seq (.assign 4 (.f1 .abs (.rd 3)))
 (.seq (.assign 5 (.lit (.int 1)))
 (.seq (.ite (.cmp .lt (.rd 3) (.lit (.int 0))) (.seq (.assign 5 (.neg (.lit (.int 1))))
 .skip) .skip)
 (.seq (.while b3c0 b3d0)
 (.seq (.fz 2 (.ret (.var 2)))
 .skip)))))))⟩
-- _shrink: slots [z, g, c]
noncomputable def b4d0 : MS := (.seq (.assign 1 (.call 1 (.cons (.var 1) (.cons (.var 2) .nil))))
 .skip)
noncomputable def b4 : MF := ⟨1, 3,
 (.seq (.assign 1 (.lit (.int 0)))
 (.seq (.for [2] (.var 0) b4d0)
 (.seq (.ite (.cmp .eq (.rd 1) (.lit (.int 0))) (.seq (.ret (.list .nil))
 .skip) .skip)
 (.seq (.ret (.comp (.bin .fdiv (.rd 3) (.rd 1)) 1 (.rd 0) (.lit (.bool true))))
 .skip))))⟩
-- add: slots [a, b, n, out, k, x, y]
noncomputable def b5d0 : MS := (.seq (.assign 5 (.lit (.int 0)))
 (.seq (.ite (.cmp .lt (.rd 4) (.f1 .len (.rd 0))) (.seq (.assign 5 (.idx (.rd 0) (.rd 4)))
 .skip) .skip)
 (.seq (.assign 6 (.lit (.int 0)))
 (.seq (.ite (.cmp .lt (.rd 4) (.f1 .len (.rd 1))) (.seq (.assign 6 (.idx (.rd 1) (.rd 4)))
 .skip) .skip)
 (.seq (.append 3 (.bin .add (.rd 5) (.rd 6)))
 .skip)))))
noncomputable def b5 : MF := ⟨2, 7,
 (.seq (.assign 2 (.m2 true (.f1 .len (.rd 0)) (.f1 .len (.rd 1))))
 (.seq (.assignL 3 .nil)
 (.seq (.for [4] (.range (.lit (.int 0)) (.rd 2) (.lit (.int 1))) b5d0)
 (.seq (.fz 3 (.ret (.call 0 (.cons (.var 3) .nil))))
 .skip))))⟩
-- multiply: slots [a, b, out, i, x, j]
noncomputable def b6d1 : MS := (.seq (.store 2 (.bin .add (.rd 3) (.rd 5)) (.bin .add (.idx (.rd 2) (.bin .add (.rd 3) (.rd 5))) (.bin .mul (.rd 4) (.idx (.rd 1) (.rd 5)))))
 .skip)
noncomputable def b6d0 : MS := (.seq (.assign 4 (.idx (.rd 0) (.rd 3)))
 (.seq (.for [5] (.range (.lit (.int 0)) (.f1 .len (.rd 1)) (.lit (.int 1))) b6d1)
 .skip))
noncomputable def b6 : MF := ⟨2, 6,
 (.seq (.ite (.or (.not (.rd 0)) (.not (.rd 1))) (.seq (.ret (.list .nil))
 .skip) .skip)
 (.seq (.assignF 2 (.bin .mul (.list (.cons (.lit (.int 0)) .nil)) (.bin .sub (.bin .add (.f1 .len (.rd 0)) (.f1 .len (.rd 1))) (.lit (.int 1)))))
 (.seq (.for [3] (.range (.lit (.int 0)) (.f1 .len (.rd 0)) (.lit (.int 1))) b6d0)
 (.seq (.fz 2 (.ret (.call 0 (.cons (.var 2) .nil))))
 .skip))))⟩
-- derivative: slots [a]
noncomputable def b7 : MF := ⟨1, 1,
 (.seq (.ret (.call 0 (.cons (.comp (.bin .mul (.rd 1) (.idx (.rd 0) (.rd 1))) 1 (.range (.lit (.int 1)) (.f1 .len (.rd 0)) (.lit (.int 1))) (.lit (.bool true))) .nil)))
 .skip)⟩
-- value: slots [a, n, total, k]
noncomputable def b8c0 : ME := (.cmp .ge (.rd 3) (.lit (.int 0)))
noncomputable def b8d0 : MS := (.seq (.assign 2 (.bin .add (.bin .mul (.rd 2) (.rd 1)) (.idx (.rd 0) (.rd 3))))
 (.seq (.assign 3 (.bin .sub (.rd 3) (.lit (.int 1))))
 .skip))
noncomputable def b8 : MF := ⟨2, 4,
 (.seq (.assign 2 (.lit (.int 0)))
 (.seq (.assign 3 (.bin .sub (.f1 .len (.rd 0)) (.lit (.int 1))))
 (.seq (.while b8c0 b8d0)
 (.seq (.ret (.var 2))
 .skip))))⟩
-- compose: slots [a, b, out, k, c, constant]
noncomputable def b9c0 : ME := (.cmp .ge (.rd 3) (.lit (.int 0)))
noncomputable def b9d0 : MS := (.seq (.assign 4 (.idx (.rd 0) (.rd 3)))
 (.seq (.assign 5 (.list .nil))
 (.seq (.ite (.cmp .ne (.rd 4) (.lit (.int 0))) (.seq (.assign 5 (.list (.cons (.var 4) .nil)))
 .skip) .skip)
 (.seq (.assign 2 (.call 5 (.cons (.call 6 (.cons (.var 2) (.cons (.var 1) .nil))) (.cons (.var 5) .nil))))
 (.seq (.assign 3 (.bin .sub (.rd 3) (.lit (.int 1))))
 .skip)))))
noncomputable def b9 : MF := ⟨2, 6,
 (.seq (.assign 2 (.list .nil))
 (.seq (.assign 3 (.bin .sub (.f1 .len (.rd 0)) (.lit (.int 1))))
 (.seq (.while b9c0 b9d0)
 (.seq (.ret (.var 2))
 .skip))))⟩
-- divide: slots [a, b, result]
noncomputable def b10 : MF := ⟨2, 3,
 (.seq (.ite (.not (.rd 1)) (.seq .raise
 .skip) .skip)
 (.seq (.ite (.not (.rd 0)) (.seq (.ret (.list .nil))
 .skip) .skip)
 (.seq (.assign 2 (.call 2 (.cons (.var 0) (.cons (.var 1) .nil))))
 (.seq (.ite (.cmp .isNone (.rd 2) (.lit .none)) (.seq .raise
 .skip) .skip)
 (.seq (.ret (.var 2))
 .skip)))))⟩
-- content: slots [a, g, c]
noncomputable def b11d0 : MS := (.seq (.assign 1 (.call 1 (.cons (.var 1) (.cons (.var 2) .nil))))
 .skip)
noncomputable def b11 : MF := ⟨1, 3,
 (.seq (.ite (.not (.rd 0)) (.seq (.ret (.lit (.int 0)))
 .skip) .skip)
 (.seq (.assign 1 (.lit (.int 0)))
 (.seq (.for [2] (.var 0) b11d0)
 (.seq (.ite (.cmp .gt (.idx (.rd 0) (.neg (.lit (.int 1)))) (.lit (.int 0))) (.seq (.ret (.var 1))
 .skip) .skip)
 (.seq (.ret (.neg (.rd 1)))
 .skip)))))⟩
-- primitive: slots [a, c]
noncomputable def b12 : MF := ⟨1, 2,
 (.seq (.ite (.not (.rd 0)) (.seq (.ret (.list .nil))
 .skip) .skip)
 (.seq (.assign 1 (.call 11 (.cons (.var 0) .nil)))
 (.seq (.ret (.comp (.bin .fdiv (.rd 2) (.rd 1)) 1 (.rd 0) (.lit (.bool true))))
 .skip)))⟩
-- gcd: slots [a, b, g, x, y, r, p]
noncomputable def b13c0 : ME := (.rd 4)
noncomputable def b13d0 : MS := (.seq (.assign 5 (.call 3 (.cons (.var 3) (.cons (.var 4) .nil))))
 (.seq (.assign 3 (.var 4))
 (.seq (.assign 4 (.call 4 (.cons (.var 5) .nil)))
 .skip)))
noncomputable def b13 : MF := ⟨2, 7,
 (.seq (.assign 2 (.call 1 (.cons (.call 11 (.cons (.var 0) .nil)) (.cons (.call 11 (.cons (.var 1) .nil)) .nil))))
 (.seq (.assign 3 (.call 12 (.cons (.var 0) .nil)))
 (.seq (.assign 4 (.call 12 (.cons (.var 1) .nil)))
 (.seq (.while b13c0 b13d0)
 (.seq (.ite (.not (.rd 3)) (.seq (.ret (.list .nil))
 .skip) .skip)
 (.seq (.assign 6 (.call 12 (.cons (.var 3) .nil)))
 (.seq (.ret (.comp (.bin .mul (.rd 2) (.rd 7)) 1 (.rd 6) (.lit (.bool true))))
 .skip)))))))⟩
-- square_free: slots [a, c, b, g, w, i, out, y, z]
noncomputable def b14c0 : ME := (.cmp .gt (.f1 .len (.rd 4)) (.lit (.int 1)))
noncomputable def b14d0 : MS := (.seq (.assign 7 (.call 12 (.cons (.call 13 (.cons (.var 4) (.cons (.var 3) .nil))) .nil)))
 (.seq (.assign 8 (.call 10 (.cons (.var 4) (.cons (.var 7) .nil))))
 (.seq (.ite (.cmp .gt (.f1 .len (.rd 8)) (.lit (.int 1))) (.seq (.append 6 (.tup (.cons (.var 8) (.cons (.var 5) .nil))))
 .skip) .skip)
 (.seq (.assign 4 (.var 7))
 (.seq (.assign 3 (.call 10 (.cons (.var 3) (.cons (.var 7) .nil))))
 (.seq (.assign 5 (.bin .add (.rd 5) (.lit (.int 1))))
 .skip))))))
noncomputable def b14 : MF := ⟨1, 9,
 (.seq (.assign 1 (.call 11 (.cons (.var 0) .nil)))
 (.seq (.assign 2 (.call 12 (.cons (.var 0) .nil)))
 (.seq (.ite (.cmp .lt (.f1 .len (.rd 2)) (.lit (.int 2))) (.seq (.ret (.tup (.cons (.var 1) (.cons (.list .nil) .nil))))
 .skip) .skip)
 (.seq (.assign 3 (.call 12 (.cons (.call 13 (.cons (.var 2) (.cons (.call 7 (.cons (.var 2) .nil)) .nil))) .nil)))
 (.seq (.assign 4 (.call 10 (.cons (.var 2) (.cons (.var 3) .nil))))
 (.seq (.assign 5 (.lit (.int 1)))
 (.seq (.assignL 6 .nil)
 (.seq (.while b14c0 b14d0)
 (.seq (.fz 6 (.ret (.tup (.cons (.var 1) (.cons (.var 6) .nil)))))
 .skip)))))))))⟩
-- _sign_changes: slots [chain, x, values, f, v, count, k]
noncomputable def b15d0 : MS := (.seq (.assign 4 (.call 8 (.cons (.var 3) (.cons (.var 1) .nil))))
 (.seq (.ite (.cmp .ne (.rd 4) (.lit (.int 0))) (.seq (.append 2 (.var 4))
 .skip) .skip)
 .skip))
noncomputable def b15d1 : MS := (.seq (.ite (.cmp .ne (.cmp .gt (.idx (.rd 2) (.bin .sub (.rd 6) (.lit (.int 1)))) (.lit (.int 0))) (.cmp .gt (.idx (.rd 2) (.rd 6)) (.lit (.int 0)))) (.seq (.assign 5 (.bin .add (.rd 5) (.lit (.int 1))))
 .skip) .skip)
 .skip)
noncomputable def b15 : MF := ⟨2, 7,
 (.seq (.assignL 2 .nil)
 (.seq (.for [3] (.var 0) b15d0)
 (.seq (.assign 5 (.lit (.int 0)))
 (.seq (.for [6] (.range (.lit (.int 1)) (.f1 .len (.rd 2)) (.lit (.int 1))) b15d1)
 (.seq (.ret (.var 5))
 .skip)))))⟩
-- real_roots: slots [a, low, high, b, g, chain, z]
noncomputable def b16c0 : ME := (.cmp .gt (.f1 .len (.idx (.rd 5) (.neg (.lit (.int 1))))) (.lit (.int 1)))
noncomputable def b16d0 : MS := (.seq (.assign 6 (.call 3 (.cons (.idx (.rd 5) (.neg (.lit (.int 2)))) (.cons (.idx (.rd 5) (.neg (.lit (.int 1)))) .nil))))
 (.seq (.ite (.not (.rd 6)) (.seq .brk
 .skip) .skip)
 (.seq (.append 5 (.comp (.neg (.rd 7)) 1 (.call 4 (.cons (.var 6) .nil)) (.lit (.bool true))))
 .skip)))
noncomputable def b16 : MF := ⟨3, 7,
 (.seq (.assign 3 (.call 12 (.cons (.var 0) .nil)))
 (.seq (.ite (.cmp .lt (.f1 .len (.rd 3)) (.lit (.int 2))) (.seq (.ret (.lit (.int 0)))
 .skip) .skip)
 (.seq (.assign 4 (.call 12 (.cons (.call 13 (.cons (.var 3) (.cons (.call 7 (.cons (.var 3) .nil)) .nil))) .nil)))
 (.seq (.assign 3 (.call 10 (.cons (.var 3) (.cons (.var 4) .nil))))
 (.seq (.assignL 5 (.cons (.var 3) (.cons (.call 7 (.cons (.var 3) .nil)) .nil)))
 (.seq (.while b16c0 b16d0)
 (.seq (.fz 5 (.ret (.bin .sub (.call 15 (.cons (.var 5) (.cons (.var 1) .nil))) (.call 15 (.cons (.var 5) (.cons (.var 2) .nil))))))
 .skip)))))))⟩
-- _law_at: slots [es, x, out, c, e]
noncomputable def b17d0 : MS := (.seq (.assign 2 (.bin .mul (.rd 2) (.bin .pow (.bin .add (.bin .add (.idx (.rd 3) (.lit (.int 0))) (.bin .mul (.idx (.rd 3) (.lit (.int 1))) (.rd 1))) (.bin .mul (.bin .mul (.idx (.rd 3) (.lit (.int 2))) (.rd 1)) (.rd 1))) (.rd 4))))
 .skip)
noncomputable def b17 : MF := ⟨2, 5,
 (.seq (.assign 2 (.lit (.int 1)))
 (.seq (.for [3, 4] (.zip (.glob (Str.ofString "_law_atoms")) (.var 0)) b17d0)
 (.seq (.ret (.var 2))
 .skip)))⟩
-- _law_poly: slots [k, es, x, out, n, c]
noncomputable def b18c0 : ME := (.lit (.bool true))
noncomputable def b18d0 : MS := (.seq (.ite (.cmp .eq (.rd 4) (.lit (.int 0))) (.seq .brk
 .skip) .skip)
 (.seq (.assign 5 (.bin .sub (.bin .mod (.bin .add (.rd 4) (.glob (Str.ofString "_law_half"))) (.glob (Str.ofString "_law_base"))) (.glob (Str.ofString "_law_half"))))
 (.seq (.append 3 (.bin .mul (.rd 0) (.rd 5)))
 (.seq (.assign 4 (.bin .fdiv (.bin .sub (.rd 4) (.rd 5)) (.glob (Str.ofString "_law_base"))))
 .skip))))
noncomputable def b18 : MF := ⟨3, 6,
 (.seq (.assignL 3 .nil)
 (.seq (.ite (.cmp .ne (.rd 0) (.lit (.int 0))) (.seq (.assign 4 (.call 17 (.cons (.var 1) (.cons (.var 2) .nil))))
 (.seq (.while b18c0 b18d0)
 .skip)) .skip)
 (.seq (.fz 3 (.ret (.var 3)))
 .skip)))⟩
-- _law_bag: slots [m, picks]
noncomputable def b19 : MF := ⟨2, 2,
 (.seq (.ite (.cmp .eq (.rd 0) (.lit (.int 0))) (.seq (.ret (.list (.cons (.lit (.int 99)) (.cons (.lit (.int 99)) (.cons (.lit (.int 99)) (.cons (.lit (.int 99)) (.cons (.lit (.int 99)) .nil)))))))
 .skip) .skip)
 (.seq (.ret (.comp (.count (.rd 1) (.rd 2)) 1 (.range (.lit (.int 0)) (.lit (.int 5)) (.lit (.int 1))) (.lit (.bool true))))
 .skip))⟩
-- _law_divides: slots [m, fs, k, es, x, y]
noncomputable def Js : MS := (.seq (.ite (.cmp .lt (.rd 4) (.rd 5)) (.seq (.ret (.lit (.bool false)))
 .skip) .skip)
 .skip)
noncomputable def b20 : MF := ⟨4, 6,
 (.seq (.ite (.cmp .eq (.rd 0) (.lit (.int 0))) (.seq (.ret (.lit (.bool false)))
 .skip) .skip)
 (.seq (.ite (.cmp .ne (.bin .mod (.rd 2) (.rd 0)) (.lit (.int 0))) (.seq (.ret (.lit (.bool false)))
 .skip) .skip)
 (.seq (.for [4, 5] (.zip (.var 3) (.var 1)) Js)
 (.seq (.ret (.lit (.bool true)))
 .skip))))⟩
-- _law_common: slots [k, m]
noncomputable def b21 : MF := ⟨2, 2,
 (.seq (.ite (.cmp .eq (.rd 1) (.lit (.int 0))) (.seq (.ret (.f1 .abs (.rd 0)))
 .skip) .skip)
 (.seq (.ret (.f1 .maxL (.comp (.var 2) 1 (.range (.lit (.int 1)) (.lit (.int 7)) (.lit (.int 1))) (.and (.cmp .eq (.bin .mod (.rd 0) (.rd 2)) (.lit (.int 0))) (.cmp .eq (.bin .mod (.rd 1) (.rd 2)) (.lit (.int 0)))))))
 .skip))⟩
-- _law_groups: slots [es, out, h]
noncomputable def b22d0 : MS := (.seq (.ite (.cmp .isIn (.rd 2) (.rd 0)) (.seq (.append 1 (.tup (.cons (.call 18 (.cons (.lit (.int 1)) (.cons (.comp (.count (.pl (.cons (.var 3) .nil)) (.rd 2)) 1 (.rd 0) (.lit (.bool true))) (.cons (.glob (Str.ofString "_law_base")) .nil)))) (.cons (.var 2) .nil))))
 .skip) .skip)
 .skip)
noncomputable def b22 : MF := ⟨1, 3,
 (.seq (.assignL 1 .nil)
 (.seq (.for [2] (.range (.lit (.int 1)) (.lit (.int 10)) (.lit (.int 1))) b22d0)
 (.seq (.fz 1 (.ret (.var 1)))
 .skip)))⟩
-- _law_count: slots [es, low, high, n, cs, e, c]
noncomputable def b23d1 : MS := (.seq (.ite (.and (.cmp .gt (.rd 5) (.lit (.int 0))) (.and (.cmp .lt (.rd 1) (.rd 6)) (.cmp .le (.rd 6) (.rd 2)))) (.seq (.assign 3 (.bin .add (.rd 3) (.lit (.int 1))))
 .skip) .skip)
 .skip)
noncomputable def b23d0 : MS := (.seq (.for [6] (.var 4) b23d1)
 .skip)
noncomputable def b23 : MF := ⟨3, 7,
 (.seq (.assign 3 (.lit (.int 0)))
 (.seq (.for [4, 5] (.zip (.glob (Str.ofString "_law_ceilings")) (.var 0)) b23d0)
 (.seq (.ret (.var 3))
 .skip)))⟩
-- _law_same: slots [got, want, c]
noncomputable def b24d0 : MS := (.seq (.ite (.not (.isType "int" (.rd 2))) (.seq (.ret (.lit (.bool false)))
 .skip) .skip)
 .skip)
noncomputable def b24 : MF := ⟨2, 3,
 (.seq (.ite (.not (.isType "list" (.rd 0))) (.seq (.ret (.lit (.bool false)))
 .skip) .skip)
 (.seq (.ite (.cmp .ne (.rd 0) (.rd 1)) (.seq (.ret (.lit (.bool false)))
 .skip) .skip)
 (.seq (.for [2] (.var 0) b24d0)
 (.seq (.ret (.lit (.bool true)))
 .skip))))⟩
-- _law_int: slots [got, want]
noncomputable def b25 : MF := ⟨2, 2,
 (.seq (.ite (.not (.isType "int" (.rd 0))) (.seq (.ret (.lit (.bool false)))
 .skip) .skip)
 (.seq (.ite (.cmp .ne (.rd 0) (.rd 1)) (.seq (.ret (.lit (.bool false)))
 .skip) .skip)
 (.seq (.ret (.lit (.bool true)))
 .skip)))⟩
-- law: slots [script, k, es, cur, op, size, i, j, m, fs, other, before, got, refused, due, low, high, shape, inner, there, unit, parts, part]
noncomputable def b26d0 : MS := (.seq (.assign 8 (.idx (.glob (Str.ofString "_law_scales")) (.bin .mod (.rd 5) (.lit (.int 8)))))
 (.seq (.assign 9 (.call 19 (.cons (.var 8) (.cons (.pl (.cons (.bin .mod (.rd 6) (.lit (.int 6))) (.cons (.bin .mod (.rd 7) (.lit (.int 6))) .nil))) .nil))))
 (.seq (.assign 10 (.call 18 (.cons (.var 8) (.cons (.var 9) (.cons (.glob (Str.ofString "_law_base")) .nil)))))
 (.seq (.assign 11 (.call 18 (.cons (.var 1) (.cons (.var 2) (.cons (.glob (Str.ofString "_law_base")) .nil)))))
 (.seq (.assign 12 (.var 3))
 (.seq (.assign 13 (.lit (.bool false)))
 (.seq (.assign 14 (.lit (.bool false)))
 (.seq (.ite (.cmp .lt (.bin .mod (.rd 4) (.lit (.int 5))) (.lit (.int 2))) (.seq (.assign 12 (.call 6 (.cons (.var 3) (.cons (.var 10) .nil))))
 (.seq (.assign 1 (.bin .mul (.rd 1) (.rd 8)))
 (.seq (.assign 2 (.comp (.bin .add (.rd 23) (.rd 24)) 2 (.zip (.rd 2) (.rd 9)) (.lit (.bool true))))
 .skip))) (.seq (.ite (.cmp .lt (.bin .mod (.rd 4) (.lit (.int 5))) (.lit (.int 4))) (.seq (.tryA (some 12) 10 (.cons (.var 3) (.cons (.var 10) .nil)) 13 true)
 (.seq (.ite (.call 20 (.cons (.var 8) (.cons (.var 9) (.cons (.var 1) (.cons (.var 2) .nil))))) (.seq (.assign 1 (.bin .fdiv (.rd 1) (.rd 8)))
 (.seq (.assign 2 (.comp (.bin .sub (.rd 23) (.rd 24)) 2 (.zip (.rd 2) (.rd 9)) (.lit (.bool true))))
 .skip)) (.seq (.assign 14 (.lit (.bool true)))
 .skip))
 .skip)) (.seq (.assign 12 (.call 13 (.cons (.var 3) (.cons (.var 10) .nil))))
 (.seq (.assign 1 (.call 21 (.cons (.var 1) (.cons (.var 8) .nil))))
 (.seq (.assign 2 (.comp (.m2 false (.rd 23) (.rd 24)) 2 (.zip (.rd 2) (.rd 9)) (.lit (.bool true))))
 .skip))))
 .skip))
 (.seq (.ite (.cmp .ne (.rd 13) (.rd 14)) (.seq (.ret (.lit (.bool false)))
 .skip) .skip)
 (.seq (.ite (.cmp .ne (.rd 3) (.rd 11)) (.seq (.ret (.lit (.bool false)))
 .skip) .skip)
 (.seq (.ite (.cmp .ne (.rd 10) (.call 18 (.cons (.var 8) (.cons (.var 9) (.cons (.glob (Str.ofString "_law_base")) .nil))))) (.seq (.ret (.lit (.bool false)))
 .skip) .skip)
 (.seq (.ite (.not (.call 24 (.cons (.var 12) (.cons (.call 18 (.cons (.var 1) (.cons (.var 2) (.cons (.glob (Str.ofString "_law_base")) .nil)))) .nil)))) (.seq (.ret (.lit (.bool false)))
 .skip) .skip)
 (.seq (.assign 3 (.var 12))
 .skip)))))))))))))
noncomputable def b26d1 : MS := (.seq (.ite (.not (.isType "int" (.idx (.rd 22) (.lit (.int 1))))) (.seq (.ret (.lit (.bool false)))
 .skip) .skip)
 (.seq (.ite (.not (.call 24 (.cons (.idx (.rd 22) (.lit (.int 0))) (.cons (.idx (.rd 22) (.lit (.int 0))) .nil)))) (.seq (.ret (.lit (.bool false)))
 .skip) .skip)
 .skip))
noncomputable def b26 : MF := ⟨1, 23,
 (.seq (.ite (.cmp .lt (.f1 .len (.rd 0)) (.lit (.int 20))) (.seq (.ret (.lit (.bool true)))
 .skip) .skip)
 (.seq (.assign 1 (.idx (.rd 0) (.lit (.int 0))))
 (.seq (.assign 2 (.call 19 (.cons (.var 1) (.cons (.pl (.cons (.bin .mod (.idx (.rd 0) (.lit (.int 1))) (.lit (.int 6))) (.cons (.bin .mod (.idx (.rd 0) (.lit (.int 2))) (.lit (.int 6))) (.cons (.bin .mod (.idx (.rd 0) (.lit (.int 3))) (.lit (.int 6))) .nil)))) .nil))))
 (.seq (.assign 3 (.call 18 (.cons (.var 1) (.cons (.var 2) (.cons (.glob (Str.ofString "_law_base")) .nil)))))
 (.seq (.for [4, 5, 6, 7] (.tup (.cons (.tup (.cons (.idx (.rd 0) (.lit (.int 4))) (.cons (.idx (.rd 0) (.lit (.int 5))) (.cons (.idx (.rd 0) (.lit (.int 6))) (.cons (.idx (.rd 0) (.lit (.int 7))) .nil))))) (.cons (.tup (.cons (.idx (.rd 0) (.lit (.int 8))) (.cons (.idx (.rd 0) (.lit (.int 9))) (.cons (.idx (.rd 0) (.lit (.int 10))) (.cons (.idx (.rd 0) (.lit (.int 11))) .nil))))) (.cons (.tup (.cons (.idx (.rd 0) (.lit (.int 12))) (.cons (.idx (.rd 0) (.lit (.int 13))) (.cons (.idx (.rd 0) (.lit (.int 14))) (.cons (.idx (.rd 0) (.lit (.int 15))) .nil))))) .nil)))) b26d0)
 (.seq (.assign 15 (.bin .sub (.bin .mod (.idx (.rd 0) (.lit (.int 16))) (.lit (.int 6))) (.lit (.int 3))))
 (.seq (.assign 16 (.bin .add (.bin .add (.rd 15) (.lit (.int 1))) (.bin .mod (.idx (.rd 0) (.lit (.int 17))) (.lit (.int 4)))))
 (.seq (.assign 17 (.idx (.glob (Str.ofString "_law_inner")) (.bin .mod (.idx (.rd 0) (.lit (.int 18))) (.lit (.int 5)))))
 (.seq (.assign 18 (.f1 .list (.rd 17)))
 (.seq (.assign 19 (.f1 .sum (.comp (.bin .mul (.rd 24) (.bin .pow (.glob (Str.ofString "_law_base")) (.rd 23))) 2 (.enum (.rd 17)) (.lit (.bool true)))))
 (.seq (.assign 20 (.lit (.int 1)))
 (.seq (.ite (.cmp .eq (.rd 1) (.lit (.int 0))) (.seq (.assign 20 (.lit (.int 0)))
 (.seq (.assign 2 (.list (.cons (.lit (.int 0)) (.cons (.lit (.int 0)) (.cons (.lit (.int 0)) (.cons (.lit (.int 0)) (.cons (.lit (.int 0)) .nil)))))))
 .skip)) .skip)
 (.seq (.ite (.not (.call 25 (.cons (.call 11 (.cons (.var 3) .nil)) (.cons (.var 1) .nil)))) (.seq (.ret (.lit (.bool false)))
 .skip) .skip)
 (.seq (.ite (.not (.call 24 (.cons (.call 12 (.cons (.var 3) .nil)) (.cons (.call 18 (.cons (.var 20) (.cons (.var 2) (.cons (.glob (Str.ofString "_law_base")) .nil)))) .nil)))) (.seq (.ret (.lit (.bool false)))
 .skip) .skip)
 (.seq (.ite (.not (.call 24 (.cons (.call 7 (.cons (.var 3) .nil)) (.cons (.sliceFrom (.comp (.bin .mul (.rd 23) (.rd 24)) 2 (.enum (.rd 3)) (.lit (.bool true))) (.lit (.int 1))) .nil)))) (.seq (.ret (.lit (.bool false)))
 .skip) .skip)
 (.seq (.ite (.not (.call 25 (.cons (.call 8 (.cons (.var 3) (.cons (.idx (.rd 0) (.lit (.int 19))) .nil))) (.cons (.bin .mul (.rd 1) (.call 17 (.cons (.var 2) (.cons (.idx (.rd 0) (.lit (.int 19))) .nil)))) .nil)))) (.seq (.ret (.lit (.bool false)))
 .skip) .skip)
 (.seq (.ite (.not (.call 24 (.cons (.call 9 (.cons (.var 3) (.cons (.var 18) .nil))) (.cons (.call 18 (.cons (.var 1) (.cons (.var 2) (.cons (.var 19) .nil)))) .nil)))) (.seq (.ret (.lit (.bool false)))
 .skip) .skip)
 (.seq (.ite (.cmp .ne (.rd 18) (.rd 17)) (.seq (.ret (.lit (.bool false)))
 .skip) .skip)
 (.seq (.ite (.cmp .eq (.rd 20) (.lit (.int 1))) (.seq (.assign 21 (.call 14 (.cons (.var 3) .nil)))
 (.seq (.ite (.cmp .ne (.rd 21) (.tup (.cons (.var 1) (.cons (.call 22 (.cons (.var 2) .nil)) .nil)))) (.seq (.ret (.lit (.bool false)))
 .skip) .skip)
 (.seq (.ite (.not (.isType "int" (.idx (.rd 21) (.lit (.int 0))))) (.seq (.ret (.lit (.bool false)))
 .skip) .skip)
 (.seq (.for [22] (.idx (.rd 21) (.lit (.int 1))) b26d1)
 (.seq (.ite (.not (.call 25 (.cons (.call 16 (.cons (.var 3) (.cons (.var 15) (.cons (.var 16) .nil)))) (.cons (.call 23 (.cons (.var 2) (.cons (.var 15) (.cons (.var 16) .nil)))) .nil)))) (.seq (.ret (.lit (.bool false)))
 .skip) .skip)
 .skip))))) .skip)
 (.seq (.ite (.cmp .ne (.rd 3) (.call 18 (.cons (.var 1) (.cons (.var 2) (.cons (.glob (Str.ofString "_law_base")) .nil))))) (.seq (.ret (.lit (.bool false)))
 .skip) .skip)
 (.seq (.ret (.lit (.bool true)))
 .skip)))))))))))))))))))))⟩
end Mine
end
section
open PySem
namespace Mine
set_option tactic.hygienic false
set_option autoImplicit false
noncomputable def tl (a : List Int) : Nat → Nat
  | 0 => 0
  | n + 1 => if a[n]? = some 0 then tl a n else n + 1
noncomputable def trim (a : List Int) : List Int := a.take (tl a a.length)
theorem tl_le (a : List Int) : ∀ n, tl a n ≤ n
  | 0 => Nat.le_refl _
  | n + 1 => by
    unfold tl; split
    · exact Nat.le_succ_of_le (tl_le a n)
    · exact Nat.le_refl _
section
variable {G : Str → Option AV} {F : Nat → List AV → Option Res}
theorem loop_trim {N : Nat} (a : List Int) : ∀ (n k : Nat), n ≤ a.length → n < k →
    Ej (Bc G F b0c0) (Ah G F N b0d0) k
      [some (false, .ilist a), some (false, .int n)] = some (.next, [some (false, .ilist a), some (false, .int (tl a n))])
  | n, 0, _, h => by exact absurd ‹_› (Nat.not_lt_zero _)
  | 0, k + 1, _, _ => by
    simp [Ip, K6, Q6, Q8, Q1, K9, slotR, Dp, Do, Dr, Ds, Dt, Du, Cv, Cw, Da, Db, Cj, Ci, Cf, Ce, Bz, Ca, Cb, Bw, Bs, Bt, Bv, Bu, Br, Bo, Bp, Bq, Dq, Cp, Co, Cu, Ct, Ch, Cq, tl, b0c0]
  | n + 1, k + 1, hn, hk => by
    have hx : (n : Nat) < a.length := by exact Nat.lt_of_succ_le ‹_›
    have e1 : ((n : Int) + 1) - 1 = (n : Int) := by exact Int.add_sub_cancel _ _
    have ih := loop_trim (N := N) a n k (by exact Nat.le_of_lt ‹_›) (by exact Nat.lt_of_succ_lt_succ ‹_›)
    have hpos : decide ((n : Int) + 1 > 0) = true := by simp only [gt_iff_lt, decide_eq_true_eq]; lia
    simp only [tl, List.getElem?_eq_getElem hx, Option.some.injEq]
    by_cases h0 : a[n] = 0
    · rw [if_pos h0, ← ih]
      refine Hp ?_ ?_
      · first | exact rfl | simp only [b0c0, J0, J1, J2, J3, J4, J5, J6, J7, J8, J9, K0, K1, K2, K3, K4, K5, K6, K7, K8, K9, Q0, Q1, Q2, Q3, Q4, Q5, Q6, Q7, Q8, Q9, U0, U1, U2, U3, U4, U5, U6, U7, U8, U9, V0, V1, V2, V3, V4, V5, V6, V7, V8, V9, W0, W1, W2, W3, Cp, Co, Cu, Ct, Ch, Cq, Dm, Dl, Dz, Dw, Dy, Dx, Dk, Dc, Cs, Cg, Cn, Dn, Dd, De, Dp, Do, Dr, Ds, Dt, Du, Cv, Cw, Da, Db, Cj, Ci, Cf, Ce, Bz, Ca, Cb, Bw, Bs, Bt, Bv, Bu, Br, Bo, Bp, Bq, Dq, Cd, Bx, By, Cc, Di, Cm, Cl, Ck, Df, Dg, Dh, Az, Int.natCast_add, Int.natCast_one, e1, getI, Int.natCast_nonneg, if_true, Int.toNat_natCast, List.getElem?_eq_getElem hx, eq_int, eq_bool, eq_str, Ea, hpos, h0, beq_self_eq_true]
      · first | exact rfl | simp only [b0d0, J0, J1, J2, J3, J4, J5, J6, J7, J8, J9, K0, K1, K2, K3, K4, K5, K6, K7, K8, K9, Q0, Q1, Q2, Q3, Q4, Q5, Q6, Q7, Q8, Q9, U0, U1, U2, U3, U4, U5, U6, U7, U8, U9, V0, V1, V2, V3, V4, V5, V6, V7, V8, V9, W0, W1, W2, W3, Cp, Co, Cu, Ct, Ch, Cq, Dm, Dl, Dz, Dw, Dy, Dx, Dk, Dc, Cs, Cg, Cn, Dn, Dd, De, Dp, Do, Dr, Ds, Dt, Du, Cv, Cw, Da, Db, Cj, Ci, Cf, Ce, Bz, Ca, Cb, Bw, Bs, Bt, Bv, Bu, Br, Bo, Bp, Bq, Dq, Cd, Bx, By, Cc, Di, Cm, Cl, Ck, Df, Dg, Dh, Int.natCast_add, Int.natCast_one, e1]
    · rw [if_neg h0]
      have hb : (a[n] == 0) = false := by simpa using h0
      refine Hk ?_
      simp only [b0c0, J0, J1, J2, J3, J4, J5, J6, J7, J8, J9, K0, K1, K2, K3, K4, K5, K6, K7, K8, K9, Q0, Q1, Q2, Q3, Q4, Q5, Q6, Q7, Q8, Q9, U0, U1, U2, U3, U4, U5, U6, U7, U8, U9, V0, V1, V2, V3, V4, V5, V6, V7, V8, V9, W0, W1, W2, W3, Cp, Co, Cu, Ct, Ch, Cq, Dm, Dl, Dz, Dw, Dy, Dx, Dk, Dc, Cs, Cg, Cn, Dn, Dd, De, Dp, Do, Dr, Ds, Dt, Du, Cv, Cw, Da, Db, Cj, Ci, Cf, Ce, Bz, Ca, Cb, Bw, Bs, Bt, Bv, Bu, Br, Bo, Bp, Bq, Dq, Cd, Bx, By, Cc, Di, Cm, Cl, Ck, Df, Dg, Dh, Az, Int.natCast_add, Int.natCast_one, e1, getI, Int.natCast_nonneg, if_true, Int.toNat_natCast, List.getElem?_eq_getElem hx, eq_int, eq_bool, eq_str, Ea, hpos, hb]
theorem run_trim (a : List Int) (N : Nat) (hN : a.length < N) : Ah G F N b0.body [some (false, .ilist a), none] = some (.ret (.ilist (trim a)), [some (false, .ilist a), some (false, .int (tl a a.length))]) := by
  have := loop_trim (G := G) (F := F) (N := N) a a.length N (Nat.le_refl _) hN
  simp only [b0, J0, J1, J2, J3, J4, J5, J6, J7, J8, J9, K0, K1, K2, K3, K4, K5, K6, K7, K8, K9, Q0, Q1, Q2, Q3, Q4, Q5, Q6, Q7, Q8, Q9, U0, U1, U2, U3, U4, U5, U6, U7, U8, U9, V0, V1, V2, V3, V4, V5, V6, V7, V8, V9, W0, W1, W2, W3, Cp, Co, Cu, Ct, Ch, Cq, Dm, Dl, Dz, Dw, Dy, Dx, Dk, Dc, Cs, Cg, Cn, Dn, Dd, De, Dp, Do, Dr, Ds, Dt, Du, Cv, Cw, Da, Db, Cj, Ci, Cf, Ce, Bz, Ca, Cb, Bw, Bs, Bt, Bv, Bu, Br, Bo, Bp, Bq, Dq, Cd, Bx, By, Cc, Di, Cm, Cl, Ck, Df, Dg, Dh, this, takeop, Int.natCast_nonneg, if_true, Int.toNat_natCast]
  rfl
theorem loop_gcd {N : Nat} : ∀ (y x k : Nat) (r : Option (Bool × AV)), y < k → ∃ r', 
    Ej (Bc G F b1c0) (Ah G F N b1d0) k
      [some (false, .int x), some (false, .int y), r] = some (.next, [some (false, .int (Nat.gcd x y)), some (false, .int 0), r']) := by
  intro y
  induction y using Nat.strongRecOn with
  | ind y ih =>
    intro x k r hk
    cases k with
    | zero => exact absurd ‹_› (Nat.not_lt_zero _)
    | succ k =>
      by_cases h0 : y = 0
      · subst h0
        exact ⟨r, by simp [Ip, K6, Q8, Q1, K9, slotR, Dp, Do, Dr, Ds, Dt, Du, Cv, Cw, Da, Db, Cj, Ci, Cf, Ce, Bz, Ca, Cb, Bw, Bs, Bt, Bv, Bu, Br, Bo, Bp, Bq, Dq, eq_int, eq_bool, eq_str, Ea, Cp, Co, Cu, Ct, Ch, Cq, b1c0]⟩
      · have hlt : x % y < y := Nat.mod_lt _ (by exact Nat.pos_of_ne_zero ‹_›)
        obtain ⟨r', hr⟩ := ih (x % y) hlt y k (some (false, .int (x % y : Nat))) (by with_reducible exact ZZ ‹_› ‹_›)
        refine ⟨r', ?_⟩
        have hb : ((y : Int) == 0) = false := by simp; assumption
        have hne : ¬ (y : Int) = 0 := by exact mt Int.ofNat_inj.mp ‹_›
        have hm : (x : Int).fmod y = ((x % y : Nat) : Int) := by
          rw [Int.fmod_eq_emod_of_nonneg _ (by exact Int.natCast_nonneg _)]; simp
        rw [Nat.gcd_comm x y, Nat.gcd_rec y x, Nat.gcd_comm (x % y) y, ← hr]
        refine Hp ?_ ?_
        · first | exact rfl | simp only [b1c0, J0, J1, J2, J3, J4, J5, J6, J7, J8, J9, K0, K1, K2, K3, K4, K5, K6, K7, K8, K9, Q0, Q1, Q2, Q3, Q4, Q5, Q6, Q7, Q8, Q9, U0, U1, U2, U3, U4, U5, U6, U7, U8, U9, V0, V1, V2, V3, V4, V5, V6, V7, V8, V9, W0, W1, W2, W3, Cp, Co, Cu, Ct, Ch, Cq, Dm, Dl, Dz, Dw, Dy, Dx, Dk, Dc, Cs, Cg, Cn, Dn, Dd, De, Dp, Do, Dr, Ds, Dt, Du, Cv, Cw, Da, Db, Cj, Ci, Cf, Ce, Bz, Ca, Cb, Bw, Bs, Bt, Bv, Bu, Br, Bo, Bp, Bq, Dq, Cd, Bx, By, Cc, Di, Cm, Cl, Ck, Df, Dg, Dh, eq_int, eq_bool, eq_str, Ea, hb, Bool.not_false]
        · first | exact rfl | simp only [b1d0, J0, J1, J2, J3, J4, J5, J6, J7, J8, J9, K0, K1, K2, K3, K4, K5, K6, K7, K8, K9, Q0, Q1, Q2, Q3, Q4, Q5, Q6, Q7, Q8, Q9, U0, U1, U2, U3, U4, U5, U6, U7, U8, U9, V0, V1, V2, V3, V4, V5, V6, V7, V8, V9, W0, W1, W2, W3, Cp, Co, Cu, Ct, Ch, Cq, Dm, Dl, Dz, Dw, Dy, Dx, Dk, Dc, Cs, Cg, Cn, Dn, Dd, De, Dp, Do, Dr, Ds, Dt, Du, Cv, Cw, Da, Db, Cj, Ci, Cf, Ce, Bz, Ca, Cb, Bw, Bs, Bt, Bv, Bu, Br, Bo, Bp, Bq, Dq, Cd, Bx, By, Cc, Di, Cm, Cl, Ck, Df, Dg, Dh, hne, if_false, hm]
theorem run_gcd (x y : Int) (N : Nat) (hN : y.natAbs < N) : ∃ σ', Ah G F N b1.body [some (false, .int x), some (false, .int y), none] = some (.ret (.int (Int.gcd x y)), σ') := by
  obtain ⟨r', h⟩ := loop_gcd (G := G) (F := F) (N := N) y.natAbs x.natAbs N none hN
  refine ⟨[some (false, .int (Nat.gcd x.natAbs y.natAbs)), some (false, .int 0), r'], ?_⟩
  simp only [b1, J0, J1, J2, J3, J4, J5, J6, J7, J8, J9, K0, K1, K2, K3, K4, K5, K6, K7, K8, K9, Q0, Q1, Q2, Q3, Q4, Q5, Q6, Q7, Q8, Q9, U0, U1, U2, U3, U4, U5, U6, U7, U8, U9, V0, V1, V2, V3, V4, V5, V6, V7, V8, V9, W0, W1, W2, W3, Cp, Co, Cu, Ct, Ch, Cq, Dm, Dl, Dz, Dw, Dy, Dx, Dk, Dc, Cs, Cg, Cn, Dn, Dd, De, Dp, Do, Dr, Ds, Dt, Du, Cv, Cw, Da, Db, Cj, Ci, Cf, Ce, Bz, Ca, Cb, Bw, Bs, Bt, Bv, Bu, Br, Bo, Bp, Bq, Dq, Cd, Bx, By, Cc, Di, Cm, Cl, Ck, Df, Dg, Dh, h]
  rfl
end
end Mine
end
section
open PySem
namespace Mine
set_option tactic.hygienic false
set_option autoImplicit false
theorem Fu (xs : List Int) : getI xs (-1) = xs.getLast? := by
  unfold getI
  rw [if_neg (by decide)]
  cases xs with
  | nil => rfl
  | cons a r =>
    rw [if_pos (by simp only [List.length_cons]; lia), List.getLast?_eq_getElem?]
    congr 1
    simp only [List.length_cons]; lia
theorem rep0 (n : Nat) : (List.replicate n [(0 : Int)]).flatten = List.replicate n 0 := by
  induction n with
  | zero => rfl
  | succ n ih => simp only [List.replicate_succ, List.flatten_cons, ih]; rfl
theorem Hf (n : Nat) (h : n ≤ LIM) : (if (True ∨ (1 : Int) = -1) ∧ -(LIM : Int) ≤ 0 ∧ (0 : Int) ≤ LIM ∧ -(LIM : Int) ≤ (n : Int) ∧ (n : Int) ≤ LIM then some (AV.ilist (Fy 0 n 1)) else none) = some (.ilist ((List.range n).map fun (i : Nat) => (i : Int))) := by
  rw [if_pos ⟨.inl trivial, by decide, by exact Int.natCast_nonneg _, by exact ZF _, by exact Int.ofNat_le.mpr ‹_›⟩, range_nat]
noncomputable def Gk (m : Int) (b : List Int) (s : Nat) (r : List Int) (k : Nat) : Option (List Int) := match r[k + s]?, b[k]? with
  | some x, some y => if Be m y then some (r.set (k + s) (x - m * y)) else none
  | _, _ => none
noncomputable def Bk (m : Int) (b : List Int) (s : Nat) : List Nat → List Int → Option (List Int)
  | [], r => some r
  | k :: ks, r => match Gk m b s r k with
    | some r' => Bk m b s ks r'
    | none => none
theorem Bj {α : Type} (xs : List α) (n : Nat) : getI xs (n : Int) = xs[n]? := by
  unfold getI; rw [if_pos (by exact Int.natCast_nonneg _)]; simp
theorem Hw (ks : List Nat) : Et (.ilist (ks.map fun (i : Nat) => (i : Int))) = some (ks.map fun (i : Nat) => AV.int (i : Int)) := by
  simp only [Et, List.map_map]; rfl
theorem Hu {r : List Int} {k : Nat} {x : Int} (h : k < r.length) : storeop (.ilist r) (.int (k : Int)) (.int x) = some (.ilist (r.set k x)) := by
  simp only [storeop]; rw [if_pos ⟨by exact Int.natCast_nonneg _, by exact Int.ofNat_lt.mpr ‹_›⟩]; simp
section
variable {G : Str → Option AV} {F : Nat → List AV → Option Res} {N : Nat}
set_option tactic.hygienic true in
theorem for_sub2 {A S Q : Option (Bool × AV)} {b : List Int} {m : Int} {s : Nat} : ∀ (ks : List Nat) (r r' : List Int) (kv : Option (Bool × AV)), Bk m b s ks r = some r' → ∃ kv',
    Ee [7] (Ah G F N b2d1) (ks.map fun (i : Nat) => AV.int (i : Int))
      [A, some (false, .ilist b), some (true, .ilist r), S, Q, some (false, .int m), some (false, .int (s : Int)), kv] = some (.next, [A, some (false, .ilist b), some (true, .ilist r'), S, Q, some (false, .int m), some (false, .int (s : Int)), kv'])
  | [], r, r', kv, h => by simp only [Bk, Option.some.injEq] at h; subst h; exact ⟨kv, rfl⟩
  | k :: ks, r, r', kv, h => by
    simp only [Bk] at h
    cases q : Gk m b s r k with
    | none => rw [q] at h; cases h
    | some r₁ =>
      rw [q] at h
      obtain ⟨kv', ih⟩ := for_sub2 (A := A) (S := S) (Q := Q) ks r₁ r' (some (false, .int (k : Int))) h
      refine ⟨kv', ?_⟩
      unfold Gk at q
      split at q
      · rename_i x y hx hy
        split at q <;> cases q
        rename_i hm
        have hlt := (List.getElem?_eq_some_iff.mp hx).1
        have e1 : (k : Int) + (s : Int) = ((k + s : Nat) : Int) := by exact (Int.natCast_add _ _).symm
        rw [List.map_cons, ← ih]
        refine Fq ?_
        simp only [b2d1, J0, J1, J2, J3, J4, J5, J6, J7, J8, J9, K0, K1, K2, K3, K4, K5, K6, K7, K8, K9, Q0, Q1, Q2, Q3, Q4, Q5, Q6, Q7, Q8, Q9, U0, U1, U2, U3, U4, U5, U6, U7, U8, U9, V0, V1, V2, V3, V4, V5, V6, V7, V8, V9, W0, W1, W2, W3, Cp, Co, Cu, Ct, Ch, Cq, Dm, Dl, Dz, Dw, Dy, Dx, Dk, Dc, Cs, Cg, Cn, Dn, Dd, De, Dp, Do, Dr, Ds, Dt, Du, Cv, Cw, Da, Db, Cj, Ci, Cf, Ce, Bz, Ca, Cb, Bw, Bs, Bt, Bv, Bu, Br, Bo, Bp, Bq, Dq, Cd, Bx, By, Cc, Di, Cm, Cl, Ck, Df, Dg, Dh, Az, e1, Bj, hx, hy, hm, if_true, Hu hlt]
      · cases q
noncomputable def Gy (b : List Int) : Nat → List Int → List Int → Option (Option (List Int × List Int))
  | 0, _, _ => none
  | n + 1, rest, q => if rest.length < b.length then some (some (rest, q)) else
    match rest.getLast?, b.getLast? with
    | some x, some y => if y = 0 then none else if x.fmod y ≠ 0 then some none else
      if rest.length - b.length < q.length then
        match Bk (x.fdiv y) b (rest.length - b.length) (List.range b.length) rest with
        | none => none
        | some r => if trim r = [] then some (some ([], q.set (rest.length - b.length) (x.fdiv y))) else Gy b n (trim r) (q.set (rest.length - b.length) (x.fdiv y))
      else none
    | _, _ => none
noncomputable def exdiv (a b : List Int) : Option (Option (List Int)) := if LIM ≤ a.length ∨ LIM < b.length then none else
  match Gy b (a.length + 1) a (List.replicate (a.length + 1 - b.length) 0) with
  | none => none
  | some none => some none
  | some (some (r, q)) => if r = [] then some (some (trim q)) else some none
theorem trim_len (a : List Int) : (trim a).length ≤ a.length := by
  unfold trim; rw [List.length_take]; exact Nat.min_le_right _ _
theorem Fa (r : List Int) : r.isEmpty = decide (r = []) := by cases r <;> rfl
set_option tactic.hygienic true in
theorem while_ex (h0 : ∀ a, F 0 [.ilist a] = some (.val (.ilist (trim a)))) {A S : Option (Bool × AV)} {b : List Int} (hb : b.length ≤ LIM) : ∀ (n : Nat) (rest q : List Int) (mv sv kv : Option (Bool × AV)) (res : Option (List Int × List Int)) (k : Nat), Gy b n rest q = some res → n ≤ k →
    ∃ σ' mv' sv' kv', Ej (Bc G F b2c0) (Ah G F N b2d0) k [A, some (false, .ilist b), some (true, .ilist rest), S, some (true, .ilist q), mv, sv, kv] = some (match res with
      | none => (.ret .none, σ')
      | some (r', q') => (.next, [A, some (false, .ilist b), some (true, .ilist r'), S, some (true, .ilist q'), mv', sv', kv']))
  | 0, rest, q, mv, sv, kv, res, k, h, _ => by simp [Gy] at h
  | n + 1, rest, q, mv, sv, kv, res, 0, h, hk => by exact absurd ‹_› (Nat.not_succ_le_zero _)
  | n + 1, rest, q, mv, sv, kv, res, k + 1, h, hk => by
    simp only [Gy] at h
    split at h
    · rename_i hlt
      cases h
      refine ⟨[], mv, sv, kv, ?_⟩
      have hd : decide ((rest.length : Int) ≥ (b.length : Int)) = false := by simp only [ge_iff_le, decide_eq_false_iff_not]; exact mt Int.ofNat_le.mp (Nat.not_le_of_lt ‹_›)
      exact Hk (by first | exact rfl | simp only [b2c0, J0, J1, J2, J3, J4, J5, J6, J7, J8, J9, K0, K1, K2, K3, K4, K5, K6, K7, K8, K9, Q0, Q1, Q2, Q3, Q4, Q5, Q6, Q7, Q8, Q9, U0, U1, U2, U3, U4, U5, U6, U7, U8, U9, V0, V1, V2, V3, V4, V5, V6, V7, V8, V9, W0, W1, W2, W3, Cp, Co, Cu, Ct, Ch, Cq, Dm, Dl, Dz, Dw, Dy, Dx, Dk, Dc, Cs, Cg, Cn, Dn, Dd, De, Dp, Do, Dr, Ds, Dt, Du, Cv, Cw, Da, Db, Cj, Ci, Cf, Ce, Bz, Ca, Cb, Bw, Bs, Bt, Bv, Bu, Br, Bo, Bp, Bq, Dq, Cd, Bx, By, Cc, Di, Cm, Cl, Ck, Df, Dg, Dh, hd])
    · rename_i hge
      have hd : decide ((rest.length : Int) ≥ (b.length : Int)) = true := by simp only [ge_iff_le, decide_eq_true_eq]; exact Int.ofNat_le.mpr (Nat.le_of_not_lt ‹_›)
      have hc : Bc G F b2c0 [A, some (false, .ilist b), some (true, .ilist rest), S, some (true, .ilist q), mv, sv, kv] = some true := by simp only [b2c0, J0, J1, J2, J3, J4, J5, J6, J7, J8, J9, K0, K1, K2, K3, K4, K5, K6, K7, K8, K9, Q0, Q1, Q2, Q3, Q4, Q5, Q6, Q7, Q8, Q9, U0, U1, U2, U3, U4, U5, U6, U7, U8, U9, V0, V1, V2, V3, V4, V5, V6, V7, V8, V9, W0, W1, W2, W3, Cp, Co, Cu, Ct, Ch, Cq, Dm, Dl, Dz, Dw, Dy, Dx, Dk, Dc, Cs, Cg, Cn, Dn, Dd, De, Dp, Do, Dr, Ds, Dt, Du, Cv, Cw, Da, Db, Cj, Ci, Cf, Ce, Bz, Ca, Cb, Bw, Bs, Bt, Bv, Bu, Br, Bo, Bp, Bq, Dq, Cd, Bx, By, Cc, Di, Cm, Cl, Ck, Df, Dg, Dh, hd]
      split at h
      · rename_i x y hx hy
        split at h
        · cases h
        · rename_i hy0
          split at h
          · rename_i hmod
            cases h
            have hb1 : (x.fmod y == 0) = false := by simpa using hmod
            refine ⟨[A, some (false, .ilist b), some (true, .ilist rest), S, some (true, .ilist q), mv, sv, kv], none, none, none, ?_⟩
            exact w_ret hc (by first | exact rfl | simp only [b2d0, J0, J1, J2, J3, J4, J5, J6, J7, J8, J9, K0, K1, K2, K3, K4, K5, K6, K7, K8, K9, Q0, Q1, Q2, Q3, Q4, Q5, Q6, Q7, Q8, Q9, U0, U1, U2, U3, U4, U5, U6, U7, U8, U9, V0, V1, V2, V3, V4, V5, V6, V7, V8, V9, W0, W1, W2, W3, Cp, Co, Cu, Ct, Ch, Cq, Dm, Dl, Dz, Dw, Dy, Dx, Dk, Dc, Cs, Cg, Cn, Dn, Dd, De, Dp, Do, Dr, Ds, Dt, Du, Cv, Cw, Da, Db, Cj, Ci, Cf, Ce, Bz, Ca, Cb, Bw, Bs, Bt, Bv, Bu, Br, Bo, Bp, Bq, Dq, Cd, Bx, By, Cc, Di, Cm, Cl, Ck, Df, Dg, Dh, Az, Fu, hx, hy, hy0, if_false, eq_int, eq_bool, eq_str, Ea, hb1, Bool.not_false])
          · rename_i hmod
            have hmod : x.fmod y = 0 := by simpa using hmod
            split at h
            · rename_i hs
              split at h
              · cases h
              · rename_i r hr
                have es : (rest.length : Int) - (b.length : Int) = ((rest.length - b.length : Nat) : Int) := by lia
                obtain ⟨kv', hfor⟩ := for_sub2 (G := G) (F := F) (N := N) (A := A) (S := S) (Q := some (true, .ilist (q.set (rest.length - b.length) (x.fdiv y)))) (List.range b.length) rest r kv hr
                split at h
                · rename_i ht
                  cases h
                  refine ⟨[], some (false, .int (x.fdiv y)), some (false, .int ((rest.length - b.length : Nat) : Int)), kv', ?_⟩
                  exact w_brk hc (by first | exact rfl | simp only [b2d0, J0, J1, J2, J3, J4, J5, J6, J7, J8, J9, K0, K1, K2, K3, K4, K5, K6, K7, K8, K9, Q0, Q1, Q2, Q3, Q4, Q5, Q6, Q7, Q8, Q9, U0, U1, U2, U3, U4, U5, U6, U7, U8, U9, V0, V1, V2, V3, V4, V5, V6, V7, V8, V9, W0, W1, W2, W3, Cp, Co, Cu, Ct, Ch, Cq, Dm, Dl, Dz, Dw, Dy, Dx, Dk, Dc, Cs, Cg, Cn, Dn, Dd, De, Dp, Do, Dr, Ds, Dt, Du, Cv, Cw, Da, Db, Cj, Ci, Cf, Ce, Bz, Ca, Cb, Bw, Bs, Bt, Bv, Bu, Br, Bo, Bp, Bq, Dq, Cd, Bx, By, Cc, Di, Cm, Cl, Ck, Df, Dg, Dh, Az, Fu, hx, hy, hy0, if_false, eq_int, eq_bool, eq_str, Ea, hmod, beq_self_eq_true, Bool.not_true, es, Hu hs, Hf _ hb, Hw, hfor, freeze, h0, isList, if_true, ht, List.isEmpty_nil, Bool.not_false])
                · rename_i ht
                  have hte : (trim r).isEmpty = false := by rw [Fa]; simpa using ht
                  obtain ⟨σ', mv', sv', kv'', ih⟩ := while_ex h0 (A := A) (S := S) hb n (trim r) (q.set (rest.length - b.length) (x.fdiv y)) (some (false, .int (x.fdiv y))) (some (false, .int ((rest.length - b.length : Nat) : Int))) kv' res k h (by exact Nat.le_of_succ_le_succ ‹_›)
                  refine ⟨σ', mv', sv', kv'', ?_⟩
                  rw [← ih]
                  refine Hp hc ?_
                  simp only [b2d0, J0, J1, J2, J3, J4, J5, J6, J7, J8, J9, K0, K1, K2, K3, K4, K5, K6, K7, K8, K9, Q0, Q1, Q2, Q3, Q4, Q5, Q6, Q7, Q8, Q9, U0, U1, U2, U3, U4, U5, U6, U7, U8, U9, V0, V1, V2, V3, V4, V5, V6, V7, V8, V9, W0, W1, W2, W3, Cp, Co, Cu, Ct, Ch, Cq, Dm, Dl, Dz, Dw, Dy, Dx, Dk, Dc, Cs, Cg, Cn, Dn, Dd, De, Dp, Do, Dr, Ds, Dt, Du, Cv, Cw, Da, Db, Cj, Ci, Cf, Ce, Bz, Ca, Cb, Bw, Bs, Bt, Bv, Bu, Br, Bo, Bp, Bq, Dq, Cd, Bx, By, Cc, Di, Cm, Cl, Ck, Df, Dg, Dh, Az, Fu, hx, hy, hy0, if_false, eq_int, eq_bool, eq_str, Ea, hmod, beq_self_eq_true, Bool.not_true, es, Hu hs, Hf _ hb, Hw, hfor, freeze, h0, isList, if_true, hte, Bool.not_false]
            · cases h
      · cases h
set_option tactic.hygienic true in
theorem run_exdiv (h0 : ∀ a, F 0 [.ilist a] = some (.val (.ilist (trim a)))) (a b : List Int) (r : Option (List Int)) (hr : exdiv a b = some r) (hN : a.length + 1 ≤ N) :
    ∃ σ', Ah G F N b2.body [some (false, .ilist a), some (false, .ilist b), none, none, none, none, none, none] = some (.ret (match r with | none => .none | some q => .ilist q), σ') := by
  unfold exdiv at hr
  split at hr
  · cases hr
  · rename_i hlim
    simp only [not_or, Nat.not_le, Nat.not_lt] at hlim
    obtain ⟨hla, hlb⟩ := hlim
    have hL : LIM = 1048576 := rfl
    have hmul : ∀ n : Nat, n ≤ LIM → Ab .mul (.ilist [0]) (.int (n : Int)) = some (.ilist (List.replicate n 0)) := fun n hn => by
      simp only [Dm, Dl, Dz, Dw, Dy, Dx, Dk, Dc, Cs, Cg, Cn, Dn, Dd, De]
      rw [if_pos ⟨by exact Int.natCast_nonneg _, by exact Int.ofNat_le.mpr ‹_›, by simp only [List.length_cons, List.length_nil, Int.toNat_natCast]; lia⟩, Int.toNat_natCast, rep0]
    have pre : Ah G F N b2.body [some (false, .ilist a), some (false, .ilist b), none, none, none, none, none, none] =
        Ah G F N (.seq (.while b2c0 b2d0) (.seq (.ite (.rd 2) (.seq (.ret (.lit .none)) .skip) .skip) (.seq (.fz 4 (.ret (.call 0 (.cons (.var 4) .nil)))) .skip)))
          [some (false, .ilist a), some (false, .ilist b), some (true, .ilist a), some (false, .int ((a.length + 1 - b.length : Nat) : Int)), some (true, .ilist (List.replicate (a.length + 1 - b.length) 0)), none, none, none] := by
      simp only [b2]
      rw [Ag (σ' := [some (false, .ilist a), some (false, .ilist b), some (true, .ilist a), none, none, none, none, none]) (by first | exact rfl | simp only [J0, J1, J2, J3, J4, J5, J6, J7, J8, J9, K0, K1, K2, K3, K4, K5, K6, K7, K8, K9, Q0, Q1, Q2, Q3, Q4, Q5, Q6, Q7, Q8, Q9, U0, U1, U2, U3, U4, U5, U6, U7, U8, U9, V0, V1, V2, V3, V4, V5, V6, V7, V8, V9, W0, W1, W2, W3, Cp, Co, Cu, Ct, Ch, Cq, Dm, Dl, Dz, Dw, Dy, Dx, Dk, Dc, Cs, Cg, Cn, Dn, Dd, De, Dp, Do, Dr, Ds, Dt, Du, Cv, Cw, Da, Db, Cj, Ci, Cf, Ce, Bz, Ca, Cb, Bw, Bs, Bt, Bv, Bu, Br, Bo, Bp, Bq, Dq, Cd, Bx, By, Cc, Di, Cm, Cl, Ck, Df, Dg, Dh, isList, if_true])]
      rw [Ag (σ' := [some (false, .ilist a), some (false, .ilist b), some (true, .ilist a), some (false, .int ((a.length : Int) - (b.length : Int) + 1)), none, none, none, none]) (by first | exact rfl | simp only [J0, J1, J2, J3, J4, J5, J6, J7, J8, J9, K0, K1, K2, K3, K4, K5, K6, K7, K8, K9, Q0, Q1, Q2, Q3, Q4, Q5, Q6, Q7, Q8, Q9, U0, U1, U2, U3, U4, U5, U6, U7, U8, U9, V0, V1, V2, V3, V4, V5, V6, V7, V8, V9, W0, W1, W2, W3, Cp, Co, Cu, Ct, Ch, Cq, Dm, Dl, Dz, Dw, Dy, Dx, Dk, Dc, Cs, Cg, Cn, Dn, Dd, De, Dp, Do, Dr, Ds, Dt, Du, Cv, Cw, Da, Db, Cj, Ci, Cf, Ce, Bz, Ca, Cb, Bw, Bs, Bt, Bv, Bu, Br, Bo, Bp, Bq, Dq, Cd, Bx, By, Cc, Di, Cm, Cl, Ck, Df, Dg, Dh])]
      rw [Ag (σ' := [some (false, .ilist a), some (false, .ilist b), some (true, .ilist a), some (false, .int ((a.length + 1 - b.length : Nat) : Int)), none, none, none, none]) (by
        by_cases hneg : (a.length : Int) - (b.length : Int) + 1 < 0
        · have e0 : ((a.length + 1 - b.length : Nat) : Int) = 0 := by lia
          simp only [J0, J1, J2, J3, J4, J5, J6, J7, J8, J9, K0, K1, K2, K3, K4, K5, K6, K7, K8, K9, Q0, Q1, Q2, Q3, Q4, Q5, Q6, Q7, Q8, Q9, U0, U1, U2, U3, U4, U5, U6, U7, U8, U9, V0, V1, V2, V3, V4, V5, V6, V7, V8, V9, W0, W1, W2, W3, Cp, Co, Cu, Ct, Ch, Cq, Dm, Dl, Dz, Dw, Dy, Dx, Dk, Dc, Cs, Cg, Cn, Dn, Dd, De, Dp, Do, Dr, Ds, Dt, Du, Cv, Cw, Da, Db, Cj, Ci, Cf, Ce, Bz, Ca, Cb, Bw, Bs, Bt, Bv, Bu, Br, Bo, Bp, Bq, Dq, Cd, Bx, By, Cc, Di, Cm, Cl, Ck, Df, Dg, Dh, hneg, decide_true, e0]
        · have e0 : ((a.length + 1 - b.length : Nat) : Int) = (a.length : Int) - (b.length : Int) + 1 := by lia
          simp only [J0, J1, J2, J3, J4, J5, J6, J7, J8, J9, K0, K1, K2, K3, K4, K5, K6, K7, K8, K9, Q0, Q1, Q2, Q3, Q4, Q5, Q6, Q7, Q8, Q9, U0, U1, U2, U3, U4, U5, U6, U7, U8, U9, V0, V1, V2, V3, V4, V5, V6, V7, V8, V9, W0, W1, W2, W3, Cp, Co, Cu, Ct, Ch, Cq, Dm, Dl, Dz, Dw, Dy, Dx, Dk, Dc, Cs, Cg, Cn, Dn, Dd, De, Dp, Do, Dr, Ds, Dt, Du, Cv, Cw, Da, Db, Cj, Ci, Cf, Ce, Bz, Ca, Cb, Bw, Bs, Bt, Bv, Bu, Br, Bo, Bp, Bq, Dq, Cd, Bx, By, Cc, Di, Cm, Cl, Ck, Df, Dg, Dh, hneg, decide_false, e0])]
      rw [Ag (σ' := [some (false, .ilist a), some (false, .ilist b), some (true, .ilist a), some (false, .int ((a.length + 1 - b.length : Nat) : Int)), some (true, .ilist (List.replicate (a.length + 1 - b.length) 0)), none, none, none]) (by
        have := hmul (a.length + 1 - b.length) (by lia)
        rw [J4, Q3, U6, K8, K9, K7, Q1, V6]
        simp only [List.length_cons, List.length_nil, V8, V9, mkL1]
        rw [if_pos (by with_reducible exact Nat.le_trans (by repeat' first | assumption | apply Nat.add_le_add | exact Nat.le_refl _) (by decide))]
        simp only [this, isList, if_true, W0, W1])]
    rw [pre]
    split at hr
    · cases hr
    · rename_i hw
      cases hr
      obtain ⟨σ', mv', sv', kv', h⟩ := while_ex (G := G) (N := N) h0 (A := some (false, .ilist a)) (S := some (false, .int ((a.length + 1 - b.length : Nat) : Int))) hlb _ _ _ none none none _ N hw hN
      exact ⟨σ', Ho (by rw [J9]; exact h)⟩
    · rename_i rr q hw
      obtain ⟨σ', mv', sv', kv', h⟩ := while_ex (G := G) (N := N) h0 (A := some (false, .ilist a)) (S := some (false, .int ((a.length + 1 - b.length : Nat) : Int))) hlb _ _ _ none none none _ N hw hN
      dsimp only at h
      rw [Ag (by rw [J9]; exact h)]
      split at hr
      · rename_i hrr
        cases hr; subst hrr
        refine ⟨[some (false, .ilist a), some (false, .ilist b), some (true, .ilist []), some (false, .int ((a.length + 1 - b.length : Nat) : Int)), some (false, .ilist q), mv', sv', kv'], ?_⟩
        simp only [J0, J1, J2, J3, J4, J5, J6, J7, J8, J9, K0, K1, K2, K3, K4, K5, K6, K7, K8, K9, Q0, Q1, Q2, Q3, Q4, Q5, Q6, Q7, Q8, Q9, U0, U1, U2, U3, U4, U5, U6, U7, U8, U9, V0, V1, V2, V3, V4, V5, V6, V7, V8, V9, W0, W1, W2, W3, Cp, Co, Cu, Ct, Ch, Cq, Dm, Dl, Dz, Dw, Dy, Dx, Dk, Dc, Cs, Cg, Cn, Dn, Dd, De, Dp, Do, Dr, Ds, Dt, Du, Cv, Cw, Da, Db, Cj, Ci, Cf, Ce, Bz, Ca, Cb, Bw, Bs, Bt, Bv, Bu, Br, Bo, Bp, Bq, Dq, Cd, Bx, By, Cc, Di, Cm, Cl, Ck, Df, Dg, Dh, List.isEmpty_nil, Bool.not_true, freeze, h0]
      · rename_i hrr
        cases hr
        have hte : rr.isEmpty = false := by rw [Fa]; simpa using hrr
        refine ⟨[some (false, .ilist a), some (false, .ilist b), some (true, .ilist rr), some (false, .int ((a.length + 1 - b.length : Nat) : Int)), some (true, .ilist q), mv', sv', kv'], ?_⟩
        simp only [J0, J1, J2, J3, J4, J5, J6, J7, J8, J9, K0, K1, K2, K3, K4, K5, K6, K7, K8, K9, Q0, Q1, Q2, Q3, Q4, Q5, Q6, Q7, Q8, Q9, U0, U1, U2, U3, U4, U5, U6, U7, U8, U9, V0, V1, V2, V3, V4, V5, V6, V7, V8, V9, W0, W1, W2, W3, Cp, Co, Cu, Ct, Ch, Cq, Dm, Dl, Dz, Dw, Dy, Dx, Dk, Dc, Cs, Cg, Cn, Dn, Dd, De, Dp, Do, Dr, Ds, Dt, Du, Cv, Cw, Da, Db, Cj, Ci, Cf, Ce, Bz, Ca, Cb, Bw, Bs, Bt, Bv, Bu, Br, Bo, Bp, Bq, Dq, Cd, Bx, By, Cc, Di, Cm, Cl, Ck, Df, Dg, Dh, hte, Bool.not_false]
end
end Mine
end
section
open PySem
namespace Mine
set_option tactic.hygienic false
set_option autoImplicit false
noncomputable def Id (c : Int) (z : List Int) : Option (List Int) := if z.all (Be c) then some (z.map (c * ·)) else none
section
variable {G : Str → Option AV} {F : Nat → List AV → Option Res} {N : Nat}
theorem Gj {σ : St} {elt : ME} {z : List Int} (g : Int → Int) (he : ∀ c ∈ z, Ae G F elt (σ ++ [some (false, .int c)]) = some (.int (g c))) : Ey (Bc G F (.lit (.bool true))) (Ae G F elt) 1 σ (z.map AV.int) = some ((z.map g).map AV.int) := by
  rw [Jw (fun v => match v with | .int c => .int (g c) | v => v)]
  · simp only [List.map_map]; rfl
  · intro y _; rfl
  · intro y hy
    obtain ⟨c, hc, rfl⟩ := List.mem_map.mp hy
    exact he c hc
theorem map_nat (ks : List Nat) : ((ks.map fun (i : Nat) => (i : Int)).map AV.int) = ks.map fun (i : Nat) => AV.int (i : Int) := by
  rw [List.map_map]; rfl
theorem Bl (z : List Int) : Et (.ilist z) = some (z.map AV.int) := rfl
noncomputable def Gw (y : List Int) (alc sg : Int) : Nat → List Int → Option (List Int)
  | 0, _ => none
  | n + 1, z => if z.length < y.length then some z else
    match z.getLast? with
    | some x => if Be x sg then
        match Id alc z with
        | some z1 => match Bk (x * sg) y (z.length - y.length) (List.range y.length) z1 with
          | some r => Gw y alc sg n (trim r)
          | none => none
        | none => none
      else none
    | none => none
noncomputable def Ev (x y : List Int) : Option (List Int) := if LIM < x.length ∨ LIM < y.length then none else match y.getLast? with
  | some lc => Gw y lc.natAbs (if lc < 0 then -1 else 1) (x.length + 1) x
  | none => none
set_option tactic.hygienic true in
theorem for_sub3 {A L L2 S : Option (Bool × AV)} {b : List Int} {m : Int} {s : Nat} : ∀ (ks : List Nat) (r r' : List Int) (kv : Option (Bool × AV)), Bk m b s ks r = some r' → ∃ kv',
    Ee [8] (Ah G F N b3d1) (ks.map fun (i : Nat) => AV.int (i : Int))
      [A, some (false, .ilist b), some (true, .ilist r), L, L2, S, some (false, .int m), some (false, .int (s : Int)), kv] = some (.next, [A, some (false, .ilist b), some (true, .ilist r'), L, L2, S, some (false, .int m), some (false, .int (s : Int)), kv'])
  | [], r, r', kv, h => by simp only [Bk, Option.some.injEq] at h; subst h; exact ⟨kv, rfl⟩
  | k :: ks, r, r', kv, h => by
    simp only [Bk] at h
    cases q : Gk m b s r k with
    | none => rw [q] at h; cases h
    | some r₁ =>
      rw [q] at h
      obtain ⟨kv', ih⟩ := for_sub3 (A := A) (L := L) (L2 := L2) (S := S) ks r₁ r' (some (false, .int (k : Int))) h
      refine ⟨kv', ?_⟩
      unfold Gk at q
      split at q
      · rename_i x y hx hy
        split at q <;> cases q
        rename_i hm
        have hlt := (List.getElem?_eq_some_iff.mp hx).1
        have e1 : (k : Int) + (s : Int) = ((k + s : Nat) : Int) := by exact (Int.natCast_add _ _).symm
        rw [List.map_cons, ← ih]
        refine Fq ?_
        simp only [b3d1, J0, J1, J2, J3, J4, J5, J6, J7, J8, J9, K0, K1, K2, K3, K4, K5, K6, K7, K8, K9, Q0, Q1, Q2, Q3, Q4, Q5, Q6, Q7, Q8, Q9, U0, U1, U2, U3, U4, U5, U6, U7, U8, U9, V0, V1, V2, V3, V4, V5, V6, V7, V8, V9, W0, W1, W2, W3, Cp, Co, Cu, Ct, Ch, Cq, Dm, Dl, Dz, Dw, Dy, Dx, Dk, Dc, Cs, Cg, Cn, Dn, Dd, De, Dp, Do, Dr, Ds, Dt, Du, Cv, Cw, Da, Db, Cj, Ci, Cf, Ce, Bz, Ca, Cb, Bw, Bs, Bt, Bv, Bu, Br, Bo, Bp, Bq, Dq, Cd, Bx, By, Cc, Di, Cm, Cl, Ck, Df, Dg, Dh, Az, e1, Bj, hx, hy, hm, if_true, Hu hlt]
      · cases q
theorem subLoop_len {m : Int} {b : List Int} {s : Nat} : ∀ (ks : List Nat) {r r' : List Int}, Bk m b s ks r = some r' → r'.length = r.length
  | [], r, r', h => by simp only [Bk, Option.some.injEq] at h; rw [h]
  | k :: ks, r, r', h => by
    simp only [Bk] at h
    cases q : Gk m b s r k with
    | none => rw [q] at h; cases h
    | some r₁ =>
      rw [q] at h
      rw [subLoop_len ks h]
      unfold Gk at q
      split at q
      · split at q <;> cases q
        simp
      · cases q
set_option tactic.hygienic true in
theorem while_pr (h0 : ∀ a, F 0 [.ilist a] = some (.val (.ilist (trim a)))) {A L : Option (Bool × AV)} {y : List Int} {alc sg : Int} (hy : y.length ≤ LIM) : ∀ (n : Nat) (z : List Int) (mv sv kv : Option (Bool × AV)) (r : List Int) (k : Nat), Gw y alc sg n z = some r → n ≤ k → z.length ≤ LIM → ∃ mv' sv' kv',
    Ej (Bc G F b3c0) (Ah G F N b3d0) k [A, some (false, .ilist y), some (true, .ilist z), L, some (false, .int alc), some (false, .int sg), mv, sv, kv] =
      some (.next, [A, some (false, .ilist y), some (true, .ilist r), L, some (false, .int alc), some (false, .int sg), mv', sv', kv'])
  | 0, z, mv, sv, kv, r, k, h, _, _ => by simp [Gw] at h
  | n + 1, z, mv, sv, kv, r, 0, h, hk, _ => by exact absurd ‹_› (Nat.not_succ_le_zero _)
  | n + 1, z, mv, sv, kv, r, k + 1, h, hk, hz => by
    simp only [Gw] at h
    split at h
    · rename_i hlt
      cases h
      have hd : decide ((z.length : Int) ≥ (y.length : Int)) = false := by simp only [ge_iff_le, decide_eq_false_iff_not]; exact mt Int.ofNat_le.mp (Nat.not_le_of_lt ‹_›)
      exact ⟨mv, sv, kv, Hk (by first | exact rfl | simp only [b3c0, J0, J1, J2, J3, J4, J5, J6, J7, J8, J9, K0, K1, K2, K3, K4, K5, K6, K7, K8, K9, Q0, Q1, Q2, Q3, Q4, Q5, Q6, Q7, Q8, Q9, U0, U1, U2, U3, U4, U5, U6, U7, U8, U9, V0, V1, V2, V3, V4, V5, V6, V7, V8, V9, W0, W1, W2, W3, Cp, Co, Cu, Ct, Ch, Cq, Dm, Dl, Dz, Dw, Dy, Dx, Dk, Dc, Cs, Cg, Cn, Dn, Dd, De, Dp, Do, Dr, Ds, Dt, Du, Cv, Cw, Da, Db, Cj, Ci, Cf, Ce, Bz, Ca, Cb, Bw, Bs, Bt, Bv, Bu, Br, Bo, Bp, Bq, Dq, Cd, Bx, By, Cc, Di, Cm, Cl, Ck, Df, Dg, Dh, hd])⟩
    · rename_i hge
      have hd : decide ((z.length : Int) ≥ (y.length : Int)) = true := by simp only [ge_iff_le, decide_eq_true_eq]; exact Int.ofNat_le.mpr (Nat.le_of_not_lt ‹_›)
      split at h
      · rename_i x hx
        split at h
        · rename_i hm
          split at h
          · rename_i z1 hz1
            split at h
            · rename_i rr hr
              unfold Id at hz1
              split at hz1 <;> cases hz1
              rename_i hall
              have es : (z.length : Int) - (y.length : Int) = ((z.length - y.length : Nat) : Int) := by lia
              obtain ⟨kv', hfor⟩ := for_sub3 (G := G) (F := F) (N := N) (A := A) (L := L) (L2 := some (false, .int alc)) (S := some (false, .int sg)) (List.range y.length) _ rr kv hr
              have hlen : rr.length = z.length := by rw [subLoop_len _ hr]; simp
              obtain ⟨mv', sv', kv'', ih⟩ := while_pr h0 (A := A) (L := L) (alc := alc) (sg := sg) hy n (trim rr) (some (false, .int (x * sg))) (some (false, .int ((z.length - y.length : Nat) : Int))) kv' r k h (by exact Nat.le_of_succ_le_succ ‹_›) (Nat.le_trans (trim_len rr) (by lia))
              refine ⟨mv', sv', kv'', ?_⟩
              rw [← ih]
              refine Hp (by first | exact rfl | simp only [b3c0, J0, J1, J2, J3, J4, J5, J6, J7, J8, J9, K0, K1, K2, K3, K4, K5, K6, K7, K8, K9, Q0, Q1, Q2, Q3, Q4, Q5, Q6, Q7, Q8, Q9, U0, U1, U2, U3, U4, U5, U6, U7, U8, U9, V0, V1, V2, V3, V4, V5, V6, V7, V8, V9, W0, W1, W2, W3, Cp, Co, Cu, Ct, Ch, Cq, Dm, Dl, Dz, Dw, Dy, Dx, Dk, Dc, Cs, Cg, Cn, Dn, Dd, De, Dp, Do, Dr, Ds, Dt, Du, Cv, Cw, Da, Db, Cj, Ci, Cf, Ce, Bz, Ca, Cb, Bw, Bs, Bt, Bv, Bu, Br, Bo, Bp, Bq, Dq, Cd, Bx, By, Cc, Di, Cm, Cl, Ck, Df, Dg, Dh, hd]) ?_
              have hcomp := Gj (G := G) (F := F) (σ := [A, some (false, .ilist y), some (true, .ilist z), L, some (false, .int alc), some (false, .int sg), some (false, .int (x * sg)), some (false, .int ((z.length - y.length : Nat) : Int)), kv]) (elt := .bin .mul (.rd 4) (.rd 9)) (z := z) (alc * ·) (fun c hc => by
                have := List.all_eq_true.mp hall c hc
                simp only [List.cons_append, List.nil_append, J0, J1, J2, J3, J4, J5, J6, J7, J8, J9, K0, K1, K2, K3, K4, K5, K6, K7, K8, K9, Q0, Q1, Q2, Q3, Q4, Q5, Q6, Q7, Q8, Q9, U0, U1, U2, U3, U4, U5, U6, U7, U8, U9, V0, V1, V2, V3, V4, V5, V6, V7, V8, V9, W0, W1, W2, W3, Cp, Co, Cu, Ct, Ch, Cq, Dm, Dl, Dz, Dw, Dy, Dx, Dk, Dc, Cs, Cg, Cn, Dn, Dd, De, Dp, Do, Dr, Ds, Dt, Du, Cv, Cw, Da, Db, Cj, Ci, Cf, Ce, Bz, Ca, Cb, Bw, Bs, Bt, Bv, Bu, Br, Bo, Bp, Bq, Dq, Cd, Bx, By, Cc, Di, Cm, Cl, Ck, Df, Dg, Dh, this, if_true])
              have hl : (z.map AV.int).length ≤ LIM := by simpa using hz
              simp only [b3d0, J0, J1, J2, J3, J4, J5, J6, J7, J8, J9, K0, K1, K2, K3, K4, K5, K6, K7, K8, K9, Q0, Q1, Q2, Q3, Q4, Q5, Q6, Q7, Q8, Q9, U0, U1, U2, U3, U4, U5, U6, U7, U8, U9, V0, V1, V2, V3, V4, V5, V6, V7, V8, V9, W0, W1, W2, W3, Cp, Co, Cu, Ct, Ch, Cq, Dm, Dl, Dz, Dw, Dy, Dx, Dk, Dc, Cs, Cg, Cn, Dn, Dd, De, Dp, Do, Dr, Ds, Dt, Du, Cv, Cw, Da, Db, Cj, Ci, Cf, Ce, Bz, Ca, Cb, Bw, Bs, Bt, Bv, Bu, Br, Bo, Bp, Bq, Dq, Cd, Bx, By, Cc, Di, Cm, Cl, Ck, Df, Dg, Dh, Az, Fu, hx, hm, if_true, es, Bl, hl, hcomp, Fg, isList, Hf _ hy, Bl, map_nat, hfor, freeze, h0]
            · cases h
          · cases h
        · cases h
      · cases h
set_option tactic.hygienic true in
theorem run_posrem (h0 : ∀ a, F 0 [.ilist a] = some (.val (.ilist (trim a)))) (x y r : List Int) (hr : Ev x y = some r) (hN : x.length + 1 ≤ N) :
    ∃ σ', Ah G F N b3.body [some (false, .ilist x), some (false, .ilist y), none, none, none, none, none, none, none] = some (.ret (.ilist r), σ') := by
  unfold Ev at hr
  split at hr
  · cases hr
  · rename_i hlim
    simp only [not_or, Nat.not_lt] at hlim
    split at hr
    · rename_i lc hlc
      obtain ⟨mv', sv', kv', h⟩ := while_pr (G := G) (N := N) h0 (A := some (false, .ilist x)) (L := some (false, .int lc)) hlim.2 _ _ none none none r N hr hN hlim.1
      refine ⟨[some (false, .ilist x), some (false, .ilist y), some (false, .ilist r), some (false, .int lc), some (false, .int lc.natAbs), some (false, .int (if lc < 0 then -1 else 1)), mv', sv', kv'], ?_⟩
      by_cases hneg : lc < 0
      · rw [if_pos hneg] at h ⊢
        simp only [b3, J0, J1, J2, J3, J4, J5, J6, J7, J8, J9, K0, K1, K2, K3, K4, K5, K6, K7, K8, K9, Q0, Q1, Q2, Q3, Q4, Q5, Q6, Q7, Q8, Q9, U0, U1, U2, U3, U4, U5, U6, U7, U8, U9, V0, V1, V2, V3, V4, V5, V6, V7, V8, V9, W0, W1, W2, W3, Cp, Co, Cu, Ct, Ch, Cq, Dm, Dl, Dz, Dw, Dy, Dx, Dk, Dc, Cs, Cg, Cn, Dn, Dd, De, Dp, Do, Dr, Ds, Dt, Du, Cv, Cw, Da, Db, Cj, Ci, Cf, Ce, Bz, Ca, Cb, Bw, Bs, Bt, Bv, Bu, Br, Bo, Bp, Bq, Dq, Cd, Bx, By, Cc, Di, Cm, Cl, Ck, Df, Dg, Dh, isList, if_true, Az, Fu, hlc, hneg, decide_true, h, freeze]
      · rw [if_neg hneg] at h ⊢
        simp only [b3, J0, J1, J2, J3, J4, J5, J6, J7, J8, J9, K0, K1, K2, K3, K4, K5, K6, K7, K8, K9, Q0, Q1, Q2, Q3, Q4, Q5, Q6, Q7, Q8, Q9, U0, U1, U2, U3, U4, U5, U6, U7, U8, U9, V0, V1, V2, V3, V4, V5, V6, V7, V8, V9, W0, W1, W2, W3, Cp, Co, Cu, Ct, Ch, Cq, Dm, Dl, Dz, Dw, Dy, Dx, Dk, Dc, Cs, Cg, Cn, Dn, Dd, De, Dp, Do, Dr, Ds, Dt, Du, Cv, Cw, Da, Db, Cj, Ci, Cf, Ce, Bz, Ca, Cb, Bw, Bs, Bt, Bv, Bu, Br, Bo, Bp, Bq, Dq, Cd, Bx, By, Cc, Di, Cm, Cl, Ck, Df, Dg, Dh, isList, if_true, Az, Fu, hlc, hneg, decide_false, h, freeze]
    · cases hr
noncomputable def Eu (z : List Int) (g : Int) : Int := z.foldl (fun g c => (Int.gcd g c : Int)) g
theorem for_shrink (h1 : ∀ x y, F 1 [.int x, .int y] = some (.val (.int (Int.gcd x y)))) {A : Option (Bool × AV)} : ∀ (z : List Int) (g : Int) (cv : Option (Bool × AV)), ∃ cv',
    Ee [2] (Ah G F N b4d0) (z.map AV.int) [A, some (false, .int g), cv] = some (.next, [A, some (false, .int (Eu z g)), cv'])
  | [], g, cv => ⟨cv, rfl⟩
  | c :: z, g, cv => by
    obtain ⟨cv', ih⟩ := for_shrink h1 (A := A) z (Int.gcd g c) (some (false, .int c))
    refine ⟨cv', ?_⟩
    rw [List.map_cons, Eu, List.foldl_cons, ← Eu, ← ih]
    refine Fq ?_
    simp only [b4d0, J0, J1, J2, J3, J4, J5, J6, J7, J8, J9, K0, K1, K2, K3, K4, K5, K6, K7, K8, K9, Q0, Q1, Q2, Q3, Q4, Q5, Q6, Q7, Q8, Q9, U0, U1, U2, U3, U4, U5, U6, U7, U8, U9, V0, V1, V2, V3, V4, V5, V6, V7, V8, V9, W0, W1, W2, W3, Cp, Co, Cu, Ct, Ch, Cq, Dm, Dl, Dz, Dw, Dy, Dx, Dk, Dc, Cs, Cg, Cn, Dn, Dd, De, Dp, Do, Dr, Ds, Dt, Du, Cv, Cw, Da, Db, Cj, Ci, Cf, Ce, Bz, Ca, Cb, Bw, Bs, Bt, Bv, Bu, Br, Bo, Bp, Bq, Dq, Cd, Bx, By, Cc, Di, Cm, Cl, Ck, Df, Dg, Dh, h1]
theorem for_content (h1 : ∀ x y, F 1 [.int x, .int y] = some (.val (.int (Int.gcd x y)))) {A : Option (Bool × AV)} : ∀ (z : List Int) (g : Int) (cv : Option (Bool × AV)), ∃ cv',
    Ee [2] (Ah G F N b11d0) (z.map AV.int) [A, some (false, .int g), cv] = some (.next, [A, some (false, .int (Eu z g)), cv'])
  | [], g, cv => ⟨cv, rfl⟩
  | c :: z, g, cv => by
    obtain ⟨cv', ih⟩ := for_content h1 (A := A) z (Int.gcd g c) (some (false, .int c))
    refine ⟨cv', ?_⟩
    rw [List.map_cons, Eu, List.foldl_cons, ← Eu, ← ih]
    refine Fq ?_
    simp only [b11d0, J0, J1, J2, J3, J4, J5, J6, J7, J8, J9, K0, K1, K2, K3, K4, K5, K6, K7, K8, K9, Q0, Q1, Q2, Q3, Q4, Q5, Q6, Q7, Q8, Q9, U0, U1, U2, U3, U4, U5, U6, U7, U8, U9, V0, V1, V2, V3, V4, V5, V6, V7, V8, V9, W0, W1, W2, W3, Cp, Co, Cu, Ct, Ch, Cq, Dm, Dl, Dz, Dw, Dy, Dx, Dk, Dc, Cs, Cg, Cn, Dn, Dd, De, Dp, Do, Dr, Ds, Dt, Du, Cv, Cw, Da, Db, Cj, Ci, Cf, Ce, Bz, Ca, Cb, Bw, Bs, Bt, Bv, Bu, Br, Bo, Bp, Bq, Dq, Cd, Bx, By, Cc, Di, Cm, Cl, Ck, Df, Dg, Dh, h1]
noncomputable def Es (z : List Int) : Option (List Int) := if LIM < z.length then none else if Eu z 0 = 0 then some [] else some (z.map (·.fdiv (Eu z 0)))
set_option tactic.hygienic true in
theorem run_shrink (h1 : ∀ x y, F 1 [.int x, .int y] = some (.val (.int (Int.gcd x y)))) (z r : List Int) (hr : Es z = some r) : ∃ σ', Ah G F N b4.body [some (false, .ilist z), none, none] = some (.ret (.ilist r), σ') := by
  unfold Es at hr
  split at hr
  · cases hr
  · rename_i hlim
    obtain ⟨cv', h⟩ := for_shrink (G := G) (N := N) h1 (A := some (false, .ilist z)) z 0 none
    refine ⟨[some (false, .ilist z), some (false, .int (Eu z 0)), cv'], ?_⟩
    split at hr
    · rename_i hg
      cases hr
      rw [hg] at h ⊢
      simp only [b4, J0, J1, J2, J3, J4, J5, J6, J7, J8, J9, K0, K1, K2, K3, K4, K5, K6, K7, K8, K9, Q0, Q1, Q2, Q3, Q4, Q5, Q6, Q7, Q8, Q9, U0, U1, U2, U3, U4, U5, U6, U7, U8, U9, V0, V1, V2, V3, V4, V5, V6, V7, V8, V9, W0, W1, W2, W3, Cp, Co, Cu, Ct, Ch, Cq, Dm, Dl, Dz, Dw, Dy, Dx, Dk, Dc, Cs, Cg, Cn, Dn, Dd, De, Dp, Do, Dr, Ds, Dt, Du, Cv, Cw, Da, Db, Cj, Ci, Cf, Ce, Bz, Ca, Cb, Bw, Bs, Bt, Bv, Bu, Br, Bo, Bp, Bq, Dq, Cd, Bx, By, Cc, Di, Cm, Cl, Ck, Df, Dg, Dh, Bl, h, eq_int, eq_bool, eq_str, Ea, beq_self_eq_true, List.length_nil, Nat.zero_le, if_true, mkL0]
    · rename_i hg
      cases hr
      have hb : (Eu z 0 == 0) = false := by simpa using hg
      have hcomp := Gj (G := G) (F := F) (σ := [some (false, .ilist z), some (false, .int (Eu z 0)), cv']) (elt := .bin .fdiv (.rd 3) (.rd 1)) (z := z) (·.fdiv (Eu z 0)) (fun c hc => by
        simp only [List.cons_append, List.nil_append, J0, J1, J2, J3, J4, J5, J6, J7, J8, J9, K0, K1, K2, K3, K4, K5, K6, K7, K8, K9, Q0, Q1, Q2, Q3, Q4, Q5, Q6, Q7, Q8, Q9, U0, U1, U2, U3, U4, U5, U6, U7, U8, U9, V0, V1, V2, V3, V4, V5, V6, V7, V8, V9, W0, W1, W2, W3, Cp, Co, Cu, Ct, Ch, Cq, Dm, Dl, Dz, Dw, Dy, Dx, Dk, Dc, Cs, Cg, Cn, Dn, Dd, De, Dp, Do, Dr, Ds, Dt, Du, Cv, Cw, Da, Db, Cj, Ci, Cf, Ce, Bz, Ca, Cb, Bw, Bs, Bt, Bv, Bu, Br, Bo, Bp, Bq, Dq, Cd, Bx, By, Cc, Di, Cm, Cl, Ck, Df, Dg, Dh, hg, if_false])
      have hl : (z.map AV.int).length ≤ LIM := by simp only [List.length_map]; exact Nat.le_of_not_lt ‹_›
      simp only [b4, J0, J1, J2, J3, J4, J5, J6, J7, J8, J9, K0, K1, K2, K3, K4, K5, K6, K7, K8, K9, Q0, Q1, Q2, Q3, Q4, Q5, Q6, Q7, Q8, Q9, U0, U1, U2, U3, U4, U5, U6, U7, U8, U9, V0, V1, V2, V3, V4, V5, V6, V7, V8, V9, W0, W1, W2, W3, Cp, Co, Cu, Ct, Ch, Cq, Dm, Dl, Dz, Dw, Dy, Dx, Dk, Dc, Cs, Cg, Cn, Dn, Dd, De, Dp, Do, Dr, Ds, Dt, Du, Cv, Cw, Da, Db, Cj, Ci, Cf, Ce, Bz, Ca, Cb, Bw, Bs, Bt, Bv, Bu, Br, Bo, Bp, Bq, Dq, Cd, Bx, By, Cc, Di, Cm, Cl, Ck, Df, Dg, Dh, Bl, h, eq_int, eq_bool, eq_str, Ea, hb, hl, if_true, hcomp, Fg]
noncomputable def content (a : List Int) : Int := match a.getLast? with
  | none => 0
  | some l => if l > 0 then Eu a 0 else -Eu a 0
theorem run_content (h1 : ∀ x y, F 1 [.int x, .int y] = some (.val (.int (Int.gcd x y)))) (a : List Int) : ∃ σ', Ah G F N b11.body [some (false, .ilist a), none, none] = some (.ret (.int (content a)), σ') := by
  unfold content
  cases ha : a with
  | nil =>
    refine ⟨[some (false, .ilist []), none, none], ?_⟩
    simp only [b11, J0, J1, J2, J3, J4, J5, J6, J7, J8, J9, K0, K1, K2, K3, K4, K5, K6, K7, K8, K9, Q0, Q1, Q2, Q3, Q4, Q5, Q6, Q7, Q8, Q9, U0, U1, U2, U3, U4, U5, U6, U7, U8, U9, V0, V1, V2, V3, V4, V5, V6, V7, V8, V9, W0, W1, W2, W3, Cp, Co, Cu, Ct, Ch, Cq, Dm, Dl, Dz, Dw, Dy, Dx, Dk, Dc, Cs, Cg, Cn, Dn, Dd, De, Dp, Do, Dr, Ds, Dt, Du, Cv, Cw, Da, Db, Cj, Ci, Cf, Ce, Bz, Ca, Cb, Bw, Bs, Bt, Bv, Bu, Br, Bo, Bp, Bq, Dq, Cd, Bx, By, Cc, Di, Cm, Cl, Ck, Df, Dg, Dh, List.isEmpty_nil, Bool.not_true, Bool.not_false]
    rfl
  | cons x r =>
    rw [← ha]
    obtain ⟨cv', h⟩ := for_content (G := G) (N := N) h1 (A := some (false, .ilist a)) a 0 none
    have he : a.isEmpty = false := by rw [ha]; rfl
    cases hl : a.getLast? with
    | none => rw [ha] at hl; simp at hl
    | some l =>
      refine ⟨[some (false, .ilist a), some (false, .int (Eu a 0)), cv'], ?_⟩
      by_cases hp : l > 0
      · first | exact rfl | simp only [b11, J0, J1, J2, J3, J4, J5, J6, J7, J8, J9, K0, K1, K2, K3, K4, K5, K6, K7, K8, K9, Q0, Q1, Q2, Q3, Q4, Q5, Q6, Q7, Q8, Q9, U0, U1, U2, U3, U4, U5, U6, U7, U8, U9, V0, V1, V2, V3, V4, V5, V6, V7, V8, V9, W0, W1, W2, W3, Cp, Co, Cu, Ct, Ch, Cq, Dm, Dl, Dz, Dw, Dy, Dx, Dk, Dc, Cs, Cg, Cn, Dn, Dd, De, Dp, Do, Dr, Ds, Dt, Du, Cv, Cw, Da, Db, Cj, Ci, Cf, Ce, Bz, Ca, Cb, Bw, Bs, Bt, Bv, Bu, Br, Bo, Bp, Bq, Dq, Cd, Bx, By, Cc, Di, Cm, Cl, Ck, Df, Dg, Dh, he, Bool.not_false, Bool.not_true, Bl, h, Az, Fu, hl, hp, decide_true, if_true]
      · simp only [b11, J0, J1, J2, J3, J4, J5, J6, J7, J8, J9, K0, K1, K2, K3, K4, K5, K6, K7, K8, K9, Q0, Q1, Q2, Q3, Q4, Q5, Q6, Q7, Q8, Q9, U0, U1, U2, U3, U4, U5, U6, U7, U8, U9, V0, V1, V2, V3, V4, V5, V6, V7, V8, V9, W0, W1, W2, W3, Cp, Co, Cu, Ct, Ch, Cq, Dm, Dl, Dz, Dw, Dy, Dx, Dk, Dc, Cs, Cg, Cn, Dn, Dd, De, Dp, Do, Dr, Ds, Dt, Du, Cv, Cw, Da, Db, Cj, Ci, Cf, Ce, Bz, Ca, Cb, Bw, Bs, Bt, Bv, Bu, Br, Bo, Bp, Bq, Dq, Cd, Bx, By, Cc, Di, Cm, Cl, Ck, Df, Dg, Dh, he, Bool.not_false, Bool.not_true, Bl, h, Az, Fu, hl, hp, decide_false, if_false]
noncomputable def primitive (a : List Int) : Option (List Int) := if a = [] then some [] else if content a = 0 ∨ LIM < a.length then none else some (a.map (·.fdiv (content a)))
set_option tactic.hygienic true in
theorem run_primitive (h17 : ∀ a, F 11 [.ilist a] = some (.val (.int (content a)))) (a r : List Int) (hr : primitive a = some r) : ∃ σ', Ah G F N b12.body [some (false, .ilist a), none] = some (.ret (.ilist r), σ') := by
  unfold primitive at hr
  split at hr
  · rename_i ha
    cases hr; subst ha
    exact ⟨[some (false, .ilist []), none], by simp only [b12, J0, J1, J2, J3, J4, J5, J6, J7, J8, J9, K0, K1, K2, K3, K4, K5, K6, K7, K8, K9, Q0, Q1, Q2, Q3, Q4, Q5, Q6, Q7, Q8, Q9, U0, U1, U2, U3, U4, U5, U6, U7, U8, U9, V0, V1, V2, V3, V4, V5, V6, V7, V8, V9, W0, W1, W2, W3, Cp, Co, Cu, Ct, Ch, Cq, Dm, Dl, Dz, Dw, Dy, Dx, Dk, Dc, Cs, Cg, Cn, Dn, Dd, De, Dp, Do, Dr, Ds, Dt, Du, Cv, Cw, Da, Db, Cj, Ci, Cf, Ce, Bz, Ca, Cb, Bw, Bs, Bt, Bv, Bu, Br, Bo, Bp, Bq, Dq, Cd, Bx, By, Cc, Di, Cm, Cl, Ck, Df, Dg, Dh, List.isEmpty_nil, Bool.not_true, Bool.not_false, List.length_nil, Nat.zero_le, if_true, mkL0]⟩
  · rename_i ha
    split at hr <;> cases hr
    rename_i hc
    simp only [not_or, Nat.not_lt] at hc
    have he : a.isEmpty = false := by rw [Fa]; simpa using ha
    have hcomp := Gj (G := G) (F := F) (σ := [some (false, .ilist a), some (false, .int (content a))]) (elt := .bin .fdiv (.rd 2) (.rd 1)) (z := a) (·.fdiv (content a)) (fun c _ => by
      simp only [List.cons_append, List.nil_append, J0, J1, J2, J3, J4, J5, J6, J7, J8, J9, K0, K1, K2, K3, K4, K5, K6, K7, K8, K9, Q0, Q1, Q2, Q3, Q4, Q5, Q6, Q7, Q8, Q9, U0, U1, U2, U3, U4, U5, U6, U7, U8, U9, V0, V1, V2, V3, V4, V5, V6, V7, V8, V9, W0, W1, W2, W3, Cp, Co, Cu, Ct, Ch, Cq, Dm, Dl, Dz, Dw, Dy, Dx, Dk, Dc, Cs, Cg, Cn, Dn, Dd, De, Dp, Do, Dr, Ds, Dt, Du, Cv, Cw, Da, Db, Cj, Ci, Cf, Ce, Bz, Ca, Cb, Bw, Bs, Bt, Bv, Bu, Br, Bo, Bp, Bq, Dq, Cd, Bx, By, Cc, Di, Cm, Cl, Ck, Df, Dg, Dh, hc.1, if_false])
    have hl : (a.map AV.int).length ≤ LIM := by simpa using hc.2
    exact ⟨[some (false, .ilist a), some (false, .int (content a))], by simp only [b12, J0, J1, J2, J3, J4, J5, J6, J7, J8, J9, K0, K1, K2, K3, K4, K5, K6, K7, K8, K9, Q0, Q1, Q2, Q3, Q4, Q5, Q6, Q7, Q8, Q9, U0, U1, U2, U3, U4, U5, U6, U7, U8, U9, V0, V1, V2, V3, V4, V5, V6, V7, V8, V9, W0, W1, W2, W3, Cp, Co, Cu, Ct, Ch, Cq, Dm, Dl, Dz, Dw, Dy, Dx, Dk, Dc, Cs, Cg, Cn, Dn, Dd, De, Dp, Do, Dr, Ds, Dt, Du, Cv, Cw, Da, Db, Cj, Ci, Cf, Ce, Bz, Ca, Cb, Bw, Bs, Bt, Bv, Bu, Br, Bo, Bp, Bq, Dq, Cd, Bx, By, Cc, Di, Cm, Cl, Ck, Df, Dg, Dh, he, Bool.not_true, Bool.not_false, h17, Bl, hl, if_true, hcomp, Fg]⟩
end
end Mine
end
section
open PySem
namespace Mine
set_option tactic.hygienic false
set_option autoImplicit false
section
variable {G : Str → Option AV} {F : Nat → List AV → Option Res} {N : Nat}
noncomputable def Jn (x : Int) (b : List Int) (i : Nat) (out : List Int) (j : Nat) : Option (List Int) := match out[i + j]?, b[j]? with
  | some o, some y => if Be x y then some (out.set (i + j) (o + x * y)) else none
  | _, _ => none
noncomputable def Hc (x : Int) (b : List Int) (i : Nat) : List Nat → List Int → Option (List Int)
  | [], r => some r
  | k :: ks, r => match Jn x b i r k with
    | some r' => Hc x b i ks r'
    | none => none
noncomputable def Hl (a b : List Int) : List Nat → List Int → Option (List Int)
  | [], r => some r
  | i :: is, r => match a[i]? with
    | some x => (match Hc x b i (List.range b.length) r with
      | some r' => Hl a b is r'
      | none => none)
    | none => none
noncomputable def multiply (a b : List Int) : Option (List Int) := if a = [] ∨ b = [] then some [] else if LIM < a.length + b.length then none else
  match Hl a b (List.range a.length) (List.replicate (a.length + b.length - 1) 0) with
  | some r => some (trim r)
  | none => none
set_option tactic.hygienic true in
theorem for_add {A : Option (Bool × AV)} {b : List Int} {x : Int} {i : Nat} : ∀ (ks : List Nat) (r r' : List Int) (kv : Option (Bool × AV)), Hc x b i ks r = some r' → ∃ kv',
    Ee [5] (Ah G F N b6d1) (ks.map fun (i : Nat) => AV.int (i : Int))
      [A, some (false, .ilist b), some (true, .ilist r), some (false, .int (i : Int)), some (false, .int x), kv] = some (.next, [A, some (false, .ilist b), some (true, .ilist r'), some (false, .int (i : Int)), some (false, .int x), kv'])
  | [], r, r', kv, h => by simp only [Hc, Option.some.injEq] at h; subst h; exact ⟨kv, rfl⟩
  | k :: ks, r, r', kv, h => by
    simp only [Hc] at h
    cases q : Jn x b i r k with
    | none => rw [q] at h; cases h
    | some r₁ =>
      rw [q] at h
      obtain ⟨kv', ih⟩ := for_add (A := A) ks r₁ r' (some (false, .int (k : Int))) h
      refine ⟨kv', ?_⟩
      unfold Jn at q
      split at q
      · rename_i o y hx hy
        split at q <;> cases q
        rename_i hm
        have hlt := (List.getElem?_eq_some_iff.mp hx).1
        have e1 : (i : Int) + (k : Int) = ((i + k : Nat) : Int) := by exact (Int.natCast_add _ _).symm
        rw [List.map_cons, ← ih]
        refine Fq ?_
        simp only [b6d1, J0, J1, J2, J3, J4, J5, J6, J7, J8, J9, K0, K1, K2, K3, K4, K5, K6, K7, K8, K9, Q0, Q1, Q2, Q3, Q4, Q5, Q6, Q7, Q8, Q9, U0, U1, U2, U3, U4, U5, U6, U7, U8, U9, V0, V1, V2, V3, V4, V5, V6, V7, V8, V9, W0, W1, W2, W3, Cp, Co, Cu, Ct, Ch, Cq, Dm, Dl, Dz, Dw, Dy, Dx, Dk, Dc, Cs, Cg, Cn, Dn, Dd, De, Dp, Do, Dr, Ds, Dt, Du, Cv, Cw, Da, Db, Cj, Ci, Cf, Ce, Bz, Ca, Cb, Bw, Bs, Bt, Bv, Bu, Br, Bo, Bp, Bq, Dq, Cd, Bx, By, Cc, Di, Cm, Cl, Ck, Df, Dg, Dh, Az, e1, Bj, hx, hy, hm, if_true, Hu hlt]
      · cases q
set_option tactic.hygienic true in
theorem for_mul {a b : List Int} (hb : b.length ≤ LIM) : ∀ (is : List Nat) (r r' : List Int) (iv xv jv : Option (Bool × AV)), Hl a b is r = some r' → ∃ iv' xv' jv',
    Ee [3] (Ah G F N b6d0) (is.map fun (i : Nat) => AV.int (i : Int)) [some (false, .ilist a), some (false, .ilist b), some (true, .ilist r), iv, xv, jv] = some (.next, [some (false, .ilist a), some (false, .ilist b), some (true, .ilist r'), iv', xv', jv'])
  | [], r, r', iv, xv, jv, h => by simp only [Hl, Option.some.injEq] at h; subst h; exact ⟨iv, xv, jv, rfl⟩
  | i :: is, r, r', iv, xv, jv, h => by
    simp only [Hl] at h
    split at h
    · rename_i x hx
      split at h
      · rename_i r₁ hr
        obtain ⟨jv', hadd⟩ := for_add (G := G) (F := F) (N := N) (A := some (false, .ilist a)) (List.range b.length) r r₁ jv hr
        obtain ⟨iv', xv', jv'', ih⟩ := for_mul hb is r₁ r' (some (false, .int (i : Int))) (some (false, .int x)) jv' h
        refine ⟨iv', xv', jv'', ?_⟩
        rw [List.map_cons, ← ih]
        refine Fq ?_
        simp only [b6d0, J0, J1, J2, J3, J4, J5, J6, J7, J8, J9, K0, K1, K2, K3, K4, K5, K6, K7, K8, K9, Q0, Q1, Q2, Q3, Q4, Q5, Q6, Q7, Q8, Q9, U0, U1, U2, U3, U4, U5, U6, U7, U8, U9, V0, V1, V2, V3, V4, V5, V6, V7, V8, V9, W0, W1, W2, W3, Cp, Co, Cu, Ct, Ch, Cq, Dm, Dl, Dz, Dw, Dy, Dx, Dk, Dc, Cs, Cg, Cn, Dn, Dd, De, Dp, Do, Dr, Ds, Dt, Du, Cv, Cw, Da, Db, Cj, Ci, Cf, Ce, Bz, Ca, Cb, Bw, Bs, Bt, Bv, Bu, Br, Bo, Bp, Bq, Dq, Cd, Bx, By, Cc, Di, Cm, Cl, Ck, Df, Dg, Dh, Az, Bj, hx, Hf _ hb, Hw, hadd]
      · cases h
    · cases h
set_option tactic.hygienic true in
theorem run_multiply (h0 : ∀ a, F 0 [.ilist a] = some (.val (.ilist (trim a)))) (a b r : List Int) (hr : multiply a b = some r) : ∃ σ', Ah G F N b6.body [some (false, .ilist a), some (false, .ilist b), none, none, none, none] = some (.ret (.ilist r), σ') := by
  unfold multiply at hr
  split at hr
  · rename_i hab
    cases hr
    refine ⟨[some (false, .ilist a), some (false, .ilist b), none, none, none, none], ?_⟩
    cases ha : a with
    | nil => simp only [b6, J0, J1, J2, J3, J4, J5, J6, J7, J8, J9, K0, K1, K2, K3, K4, K5, K6, K7, K8, K9, Q0, Q1, Q2, Q3, Q4, Q5, Q6, Q7, Q8, Q9, U0, U1, U2, U3, U4, U5, U6, U7, U8, U9, V0, V1, V2, V3, V4, V5, V6, V7, V8, V9, W0, W1, W2, W3, Cp, Co, Cu, Ct, Ch, Cq, Dm, Dl, Dz, Dw, Dy, Dx, Dk, Dc, Cs, Cg, Cn, Dn, Dd, De, Dp, Do, Dr, Ds, Dt, Du, Cv, Cw, Da, Db, Cj, Ci, Cf, Ce, Bz, Ca, Cb, Bw, Bs, Bt, Bv, Bu, Br, Bo, Bp, Bq, Dq, Cd, Bx, By, Cc, Di, Cm, Cl, Ck, Df, Dg, Dh, List.isEmpty_nil, Bool.not_true, Bool.not_false, List.length_nil, Nat.zero_le, if_true, mkL0]
    | cons x t =>
      have hb : b = [] := by rcases hab with h | h; rw [ha] at h; cases h; exact h
      subst hb
      simp only [b6, J0, J1, J2, J3, J4, J5, J6, J7, J8, J9, K0, K1, K2, K3, K4, K5, K6, K7, K8, K9, Q0, Q1, Q2, Q3, Q4, Q5, Q6, Q7, Q8, Q9, U0, U1, U2, U3, U4, U5, U6, U7, U8, U9, V0, V1, V2, V3, V4, V5, V6, V7, V8, V9, W0, W1, W2, W3, Cp, Co, Cu, Ct, Ch, Cq, Dm, Dl, Dz, Dw, Dy, Dx, Dk, Dc, Cs, Cg, Cn, Dn, Dd, De, Dp, Do, Dr, Ds, Dt, Du, Cv, Cw, Da, Db, Cj, Ci, Cf, Ce, Bz, Ca, Cb, Bw, Bs, Bt, Bv, Bu, Br, Bo, Bp, Bq, Dq, Cd, Bx, By, Cc, Di, Cm, Cl, Ck, Df, Dg, Dh, List.isEmpty_cons, List.isEmpty_nil, Bool.not_true, Bool.not_false, List.length_nil, Nat.zero_le, if_true, mkL0]
  · rename_i hab
    simp only [not_or] at hab
    split at hr
    · cases hr
    · rename_i hlim
      split at hr
      · rename_i rr hrr
        cases hr
        have hL : LIM = 1048576 := rfl
        have hea : a.isEmpty = false := by rw [Fa]; simpa using hab.1
        have heb : b.isEmpty = false := by rw [Fa]; simpa using hab.2
        have hla : 0 < a.length := List.length_pos_iff.mpr hab.1
        have hlb : 0 < b.length := List.length_pos_iff.mpr hab.2
        have e1 : (a.length : Int) + (b.length : Int) - 1 = ((a.length + b.length - 1 : Nat) : Int) := by lia
        have hmul : Ab .mul (.ilist [0]) (.int ((a.length + b.length - 1 : Nat) : Int)) = some (.ilist (List.replicate (a.length + b.length - 1) 0)) := by
          simp only [Dm, Dl, Dz, Dw, Dy, Dx, Dk, Dc, Cs, Cg, Cn, Dn, Dd, De]
          rw [if_pos ⟨by exact Int.natCast_nonneg _, by lia, by simp only [List.length_cons, List.length_nil, Int.toNat_natCast]; lia⟩, Int.toNat_natCast, rep0]
        obtain ⟨iv', xv', jv', h⟩ := for_mul (G := G) (F := F) (N := N) (a := a) (b := b) (by lia) (List.range a.length) _ rr none none none hrr
        refine ⟨[some (false, .ilist a), some (false, .ilist b), some (false, .ilist rr), iv', xv', jv'], ?_⟩
        simp only [b6]
        rw [Ag (σ' := [some (false, .ilist a), some (false, .ilist b), none, none, none, none]) (by first | exact rfl | simp only [J0, J1, J2, J3, J4, J5, J6, J7, J8, J9, K0, K1, K2, K3, K4, K5, K6, K7, K8, K9, Q0, Q1, Q2, Q3, Q4, Q5, Q6, Q7, Q8, Q9, U0, U1, U2, U3, U4, U5, U6, U7, U8, U9, V0, V1, V2, V3, V4, V5, V6, V7, V8, V9, W0, W1, W2, W3, Cp, Co, Cu, Ct, Ch, Cq, Dm, Dl, Dz, Dw, Dy, Dx, Dk, Dc, Cs, Cg, Cn, Dn, Dd, De, Dp, Do, Dr, Ds, Dt, Du, Cv, Cw, Da, Db, Cj, Ci, Cf, Ce, Bz, Ca, Cb, Bw, Bs, Bt, Bv, Bu, Br, Bo, Bp, Bq, Dq, Cd, Bx, By, Cc, Di, Cm, Cl, Ck, Df, Dg, Dh, hea, heb, Bool.not_true, Bool.not_false])]
        rw [Ag (σ' := [some (false, .ilist a), some (false, .ilist b), some (true, .ilist (List.replicate (a.length + b.length - 1) 0)), none, none, none]) (by
          rw [J4, Q3, U6, K8, K9, K7, Q3, Q3, U2, U2, Q1, Q1, V6, V6, K9]
          simp only [List.length_cons, List.length_nil, V8, V9, mkL1, Cd, Bx, By, Cc, Di, Cm, Cl, Ck, Df, Dg, Dh]
          rw [if_pos (by with_reducible exact Nat.le_trans (by repeat' first | assumption | apply Nat.add_le_add | exact Nat.le_refl _) (by decide))]
          have e2 : Ab .add (.int (a.length : Int)) (.int (b.length : Int)) = some (.int ((a.length : Int) + b.length)) := rfl
          have e3 : Ab .sub (.int ((a.length : Int) + b.length)) (.int 1) = some (.int ((a.length + b.length - 1 : Nat) : Int)) := by rw [← e1]; rfl
          simp only [e2, e3, hmul, isList, if_true, W0, W1])]
        rw [Ag (σ' := [some (false, .ilist a), some (false, .ilist b), some (true, .ilist rr), iv', xv', jv']) (by first | exact rfl | simp only [J0, J1, J2, J3, J4, J5, J6, J7, J8, J9, K0, K1, K2, K3, K4, K5, K6, K7, K8, K9, Q0, Q1, Q2, Q3, Q4, Q5, Q6, Q7, Q8, Q9, U0, U1, U2, U3, U4, U5, U6, U7, U8, U9, V0, V1, V2, V3, V4, V5, V6, V7, V8, V9, W0, W1, W2, W3, Cp, Co, Cu, Ct, Ch, Cq, Dm, Dl, Dz, Dw, Dy, Dx, Dk, Dc, Cs, Cg, Cn, Dn, Dd, De, Dp, Do, Dr, Ds, Dt, Du, Cv, Cw, Da, Db, Cj, Ci, Cf, Ce, Bz, Ca, Cb, Bw, Bs, Bt, Bv, Bu, Br, Bo, Bp, Bq, Dq, Cd, Bx, By, Cc, Di, Cm, Cl, Ck, Df, Dg, Dh, Hf a.length (by lia), Hw, h])]
        simp only [J0, J1, J2, J3, J4, J5, J6, J7, J8, J9, K0, K1, K2, K3, K4, K5, K6, K7, K8, K9, Q0, Q1, Q2, Q3, Q4, Q5, Q6, Q7, Q8, Q9, U0, U1, U2, U3, U4, U5, U6, U7, U8, U9, V0, V1, V2, V3, V4, V5, V6, V7, V8, V9, W0, W1, W2, W3, Cp, Co, Cu, Ct, Ch, Cq, Dm, Dl, Dz, Dw, Dy, Dx, Dk, Dc, Cs, Cg, Cn, Dn, Dd, De, Dp, Do, Dr, Ds, Dt, Du, Cv, Cw, Da, Db, Cj, Ci, Cf, Ce, Bz, Ca, Cb, Bw, Bs, Bt, Bv, Bu, Br, Bo, Bp, Bq, Dq, Cd, Bx, By, Cc, Di, Cm, Cl, Ck, Df, Dg, Dh, freeze, h0]
      · cases hr
noncomputable def dl (a : List Int) : List Int := (List.range (a.length - 1)).map fun (i : Nat) => ((i : Int) + 1) * a.getD (i + 1) 0
noncomputable def derivative (a : List Int) : Option (List Int) := if LIM < a.length ∨ !((List.range (a.length - 1)).all fun (i : Nat) => Be ((i : Int) + 1) (a.getD (i + 1) 0)) then none else some (trim (dl a))
theorem range_one (n : Nat) (h : n ≤ LIM) : (if (True ∨ (1 : Int) = -1) ∧ -(LIM : Int) ≤ 1 ∧ (1 : Int) ≤ LIM ∧ -(LIM : Int) ≤ (n : Int) ∧ (n : Int) ≤ LIM then some (AV.ilist (Fy 1 n 1)) else none) = some (.ilist ((List.range (n - 1)).map fun (i : Nat) => (i : Int) + 1)) := by
  have hL : LIM = 1048576 := rfl
  rw [if_pos ⟨.inl trivial, by decide, by decide, by exact ZF _, by exact Int.ofNat_le.mpr ‹_›⟩]
  unfold Fy Builtin.Range.rangeSize
  simp only [show (1 : Int) > 0 by decide, if_true, Int.ediv_one]
  have : (if (1 : Int) < n then (n : Int) - 1 - 1 + 1 else 0).toNat = n - 1 := by split <;> lia
  rw [this]
  congr 2
  apply List.map_congr_left
  intro i _; lia
set_option tactic.hygienic true in
theorem run_derivative (h0 : ∀ a, F 0 [.ilist a] = some (.val (.ilist (trim a)))) (a r : List Int) (hr : derivative a = some r) : ∃ σ', Ah G F N b7.body [some (false, .ilist a)] = some (.ret (.ilist r), σ') := by
  unfold derivative at hr
  split at hr
  · cases hr
  · rename_i hc
    cases hr
    simp only [not_or, Nat.not_lt, Bool.not_eq_true', Bool.not_eq_false] at hc
    obtain ⟨hl, hm⟩ := hc
    refine ⟨[some (false, .ilist a)], ?_⟩
    have hcomp : Ey (Bc G F (.lit (.bool true))) (Ae G F (.bin .mul (.rd 1) (.idx (.rd 0) (.rd 1)))) 1 [some (false, .ilist a)] (((List.range (a.length - 1)).map fun (i : Nat) => (i : Int) + 1).map AV.int) = some ((dl a).map AV.int) := by
      rw [Jw (fun v => match v with | .int c => .int (c * a.getD c.toNat 0) | v => v)]
      · simp only [dl, List.map_map]
        congr 1
      · intro y _; rfl
      · intro y hy
        obtain ⟨c, hc, rfl⟩ := List.mem_map.mp hy
        obtain ⟨i, hi, rfl⟩ := List.mem_map.mp hc
        have hi' := List.mem_range.mp hi
        have hmi := List.all_eq_true.mp hm i hi
        have e1 : (i : Int) + 1 = ((i + 1 : Nat) : Int) := by exact rfl
        have hx : a[i + 1]? = some (a.getD (i + 1) 0) := by
          rw [List.getElem?_eq_getElem (by lia), List.getD_eq_getElem?_getD, List.getElem?_eq_getElem (by lia)]; rfl
        have e2 : ((i + 1 : Nat) : Int).toNat = i + 1 := by exact rfl
        rw [e1] at hmi ⊢
        simp only [List.cons_append, List.nil_append, J0, J1, J2, J3, J4, J5, J6, J7, J8, J9, K0, K1, K2, K3, K4, K5, K6, K7, K8, K9, Q0, Q1, Q2, Q3, Q4, Q5, Q6, Q7, Q8, Q9, U0, U1, U2, U3, U4, U5, U6, U7, U8, U9, V0, V1, V2, V3, V4, V5, V6, V7, V8, V9, W0, W1, W2, W3, Cp, Co, Cu, Ct, Ch, Cq, Dm, Dl, Dz, Dw, Dy, Dx, Dk, Dc, Cs, Cg, Cn, Dn, Dd, De, Dp, Do, Dr, Ds, Dt, Du, Cv, Cw, Da, Db, Cj, Ci, Cf, Ce, Bz, Ca, Cb, Bw, Bs, Bt, Bv, Bu, Br, Bo, Bp, Bq, Dq, Cd, Bx, By, Cc, Di, Cm, Cl, Ck, Df, Dg, Dh, Az, Bj, hx, hmi, if_true, e2]
    have hlen : (((List.range (a.length - 1)).map fun (i : Nat) => (i : Int) + 1).map AV.int).length ≤ LIM := by simp only [List.length_map, List.length_range]; exact Nat.le_trans (Nat.sub_le _ _) ‹_›
    simp only [b7, J0, J1, J2, J3, J4, J5, J6, J7, J8, J9, K0, K1, K2, K3, K4, K5, K6, K7, K8, K9, Q0, Q1, Q2, Q3, Q4, Q5, Q6, Q7, Q8, Q9, U0, U1, U2, U3, U4, U5, U6, U7, U8, U9, V0, V1, V2, V3, V4, V5, V6, V7, V8, V9, W0, W1, W2, W3, Cp, Co, Cu, Ct, Ch, Cq, Dm, Dl, Dz, Dw, Dy, Dx, Dk, Dc, Cs, Cg, Cn, Dn, Dd, De, Dp, Do, Dr, Ds, Dt, Du, Cv, Cw, Da, Db, Cj, Ci, Cf, Ce, Bz, Ca, Cb, Bw, Bs, Bt, Bv, Bu, Br, Bo, Bp, Bq, Dq, Cd, Bx, By, Cc, Di, Cm, Cl, Ck, Df, Dg, Dh, range_one _ hl, Bl, hlen, if_true, hcomp, Fg, h0]
noncomputable def valO (n : Int) : List Int → Int → Option Int
  | [], t => some t
  | c :: r, t => if Be t n then valO n r (t * n + c) else none
noncomputable def value (a : List Int) (n : Int) : Option Int := valO n a.reverse 0
set_option tactic.hygienic true in
theorem while_value {a : List Int} {n : Int} : ∀ (m : Nat) (t v : Int) (k : Nat), m ≤ a.length → m < k → valO n (a.take m).reverse t = some v →
    Ej (Bc G F b8c0) (Ah G F N b8d0) k [some (false, .ilist a), some (false, .int n), some (false, .int t), some (false, .int ((m : Int) - 1))] = some (.next, [some (false, .ilist a), some (false, .int n), some (false, .int v), some (false, .int (-1))])
  | m, t, v, 0, _, h, _ => by exact absurd ‹_› (Nat.not_lt_zero _)
  | 0, t, v, k + 1, _, _, h => by
    simp only [List.take_zero, List.reverse_nil, valO, Option.some.injEq] at h
    subst h
    refine Hk ?_
    simp only [b8c0, J0, J1, J2, J3, J4, J5, J6, J7, J8, J9, K0, K1, K2, K3, K4, K5, K6, K7, K8, K9, Q0, Q1, Q2, Q3, Q4, Q5, Q6, Q7, Q8, Q9, U0, U1, U2, U3, U4, U5, U6, U7, U8, U9, V0, V1, V2, V3, V4, V5, V6, V7, V8, V9, W0, W1, W2, W3, Cp, Co, Cu, Ct, Ch, Cq, Dm, Dl, Dz, Dw, Dy, Dx, Dk, Dc, Cs, Cg, Cn, Dn, Dd, De, Dp, Do, Dr, Ds, Dt, Du, Cv, Cw, Da, Db, Cj, Ci, Cf, Ce, Bz, Ca, Cb, Bw, Bs, Bt, Bv, Bu, Br, Bo, Bp, Bq, Dq, Cd, Bx, By, Cc, Di, Cm, Cl, Ck, Df, Dg, Dh]
    rfl
  | m + 1, t, v, k + 1, hm, hk, h => by
    have hx : m < a.length := by exact Nat.lt_of_succ_le ‹_›
    have e0 : (a.take (m + 1)).reverse = a[m] :: (a.take m).reverse := by
      rw [List.take_succ_eq_append_getElem hx]; simp
    rw [e0] at h
    simp only [valO] at h
    split at h
    · rename_i hok
      have ih := while_value m (t * n + a[m]) v k (by exact Nat.le_of_lt ‹_›) (by exact Nat.lt_of_succ_lt_succ ‹_›) h
      have e1 : ((m + 1 : Nat) : Int) - 1 = (m : Int) := by lia
      have hd : decide ((m : Int) ≥ 0) = true := by simp
      rw [← ih, e1]
      refine Hp (by first | exact rfl | simp only [b8c0, J0, J1, J2, J3, J4, J5, J6, J7, J8, J9, K0, K1, K2, K3, K4, K5, K6, K7, K8, K9, Q0, Q1, Q2, Q3, Q4, Q5, Q6, Q7, Q8, Q9, U0, U1, U2, U3, U4, U5, U6, U7, U8, U9, V0, V1, V2, V3, V4, V5, V6, V7, V8, V9, W0, W1, W2, W3, Cp, Co, Cu, Ct, Ch, Cq, Dm, Dl, Dz, Dw, Dy, Dx, Dk, Dc, Cs, Cg, Cn, Dn, Dd, De, Dp, Do, Dr, Ds, Dt, Du, Cv, Cw, Da, Db, Cj, Ci, Cf, Ce, Bz, Ca, Cb, Bw, Bs, Bt, Bv, Bu, Br, Bo, Bp, Bq, Dq, Cd, Bx, By, Cc, Di, Cm, Cl, Ck, Df, Dg, Dh, hd]) ?_
      simp only [b8d0, J0, J1, J2, J3, J4, J5, J6, J7, J8, J9, K0, K1, K2, K3, K4, K5, K6, K7, K8, K9, Q0, Q1, Q2, Q3, Q4, Q5, Q6, Q7, Q8, Q9, U0, U1, U2, U3, U4, U5, U6, U7, U8, U9, V0, V1, V2, V3, V4, V5, V6, V7, V8, V9, W0, W1, W2, W3, Cp, Co, Cu, Ct, Ch, Cq, Dm, Dl, Dz, Dw, Dy, Dx, Dk, Dc, Cs, Cg, Cn, Dn, Dd, De, Dp, Do, Dr, Ds, Dt, Du, Cv, Cw, Da, Db, Cj, Ci, Cf, Ce, Bz, Ca, Cb, Bw, Bs, Bt, Bv, Bu, Br, Bo, Bp, Bq, Dq, Cd, Bx, By, Cc, Di, Cm, Cl, Ck, Df, Dg, Dh, hok, if_true, Az, Bj, List.getElem?_eq_getElem hx]
    · cases h
theorem run_value (a : List Int) (n v : Int) (hv : value a n = some v) (hN : a.length < N) : ∃ σ', Ah G F N b8.body [some (false, .ilist a), some (false, .int n), none, none] = some (.ret (.int v), σ') := by
  have h := while_value (G := G) (F := F) (N := N) (a := a) (n := n) a.length 0 v N (Nat.le_refl _) hN (by rw [List.take_length]; exact hv)
  exact ⟨[some (false, .ilist a), some (false, .int n), some (false, .int v), some (false, .int (-1))], by simp only [b8, J0, J1, J2, J3, J4, J5, J6, J7, J8, J9, K0, K1, K2, K3, K4, K5, K6, K7, K8, K9, Q0, Q1, Q2, Q3, Q4, Q5, Q6, Q7, Q8, Q9, U0, U1, U2, U3, U4, U5, U6, U7, U8, U9, V0, V1, V2, V3, V4, V5, V6, V7, V8, V9, W0, W1, W2, W3, Cp, Co, Cu, Ct, Ch, Cq, Dm, Dl, Dz, Dw, Dy, Dx, Dk, Dc, Cs, Cg, Cn, Dn, Dd, De, Dp, Do, Dr, Ds, Dt, Du, Cv, Cw, Da, Db, Cj, Ci, Cf, Ce, Bz, Ca, Cb, Bw, Bs, Bt, Bv, Bu, Br, Bo, Bp, Bq, Dq, Cd, Bx, By, Cc, Di, Cm, Cl, Ck, Df, Dg, Dh, h]⟩
noncomputable def Ec (a b : List Int) : Option (Option (List Int)) := if b = [] then some none else if a = [] then some (some []) else exdiv a b
noncomputable def exR : Option (List Int) → Res
  | none => .exc
  | some q => .val (.ilist q)
noncomputable def exV : Option (List Int) → AV
  | none => .none
  | some q => .ilist q
set_option tactic.hygienic true in
theorem run_divide (h2 : ∀ a b r, exdiv a b = some r → F 2 [.ilist a, .ilist b] = some (.val (exV r))) (a b : List Int) (r : Option (List Int)) (hr : Ec a b = some r) :
    ∃ o σ', Ah G F N b10.body [some (false, .ilist a), some (false, .ilist b), none] = some (o, σ') ∧ Iw o = some (exR r) := by
  unfold Ec at hr
  split at hr
  · rename_i hb
    cases hr; subst hb
    exact ⟨.exc, [some (false, .ilist a), some (false, .ilist []), none], by simp only [b10, J0, J1, J2, J3, J4, J5, J6, J7, J8, J9, K0, K1, K2, K3, K4, K5, K6, K7, K8, K9, Q0, Q1, Q2, Q3, Q4, Q5, Q6, Q7, Q8, Q9, U0, U1, U2, U3, U4, U5, U6, U7, U8, U9, V0, V1, V2, V3, V4, V5, V6, V7, V8, V9, W0, W1, W2, W3, Cp, Co, Cu, Ct, Ch, Cq, Dm, Dl, Dz, Dw, Dy, Dx, Dk, Dc, Cs, Cg, Cn, Dn, Dd, De, Dp, Do, Dr, Ds, Dt, Du, Cv, Cw, Da, Db, Cj, Ci, Cf, Ce, Bz, Ca, Cb, Bw, Bs, Bt, Bv, Bu, Br, Bo, Bp, Bq, Dq, Cd, Bx, By, Cc, Di, Cm, Cl, Ck, Df, Dg, Dh, List.isEmpty_nil, Bool.not_true, Bool.not_false], rfl⟩
  · rename_i hb
    have heb : b.isEmpty = false := by rw [Fa]; simpa using hb
    split at hr
    · rename_i ha
      cases hr; subst ha
      exact ⟨.ret (.ilist []), [some (false, .ilist []), some (false, .ilist b), none], by simp only [b10, J0, J1, J2, J3, J4, J5, J6, J7, J8, J9, K0, K1, K2, K3, K4, K5, K6, K7, K8, K9, Q0, Q1, Q2, Q3, Q4, Q5, Q6, Q7, Q8, Q9, U0, U1, U2, U3, U4, U5, U6, U7, U8, U9, V0, V1, V2, V3, V4, V5, V6, V7, V8, V9, W0, W1, W2, W3, Cp, Co, Cu, Ct, Ch, Cq, Dm, Dl, Dz, Dw, Dy, Dx, Dk, Dc, Cs, Cg, Cn, Dn, Dd, De, Dp, Do, Dr, Ds, Dt, Du, Cv, Cw, Da, Db, Cj, Ci, Cf, Ce, Bz, Ca, Cb, Bw, Bs, Bt, Bv, Bu, Br, Bo, Bp, Bq, Dq, Cd, Bx, By, Cc, Di, Cm, Cl, Ck, Df, Dg, Dh, heb, List.isEmpty_nil, Bool.not_true, Bool.not_false, List.length_nil, Nat.zero_le, if_true, mkL0], rfl⟩
    · rename_i ha
      have hea : a.isEmpty = false := by rw [Fa]; simpa using ha
      have h2 := h2 a b r hr
      cases r with
      | none => exact ⟨.exc, [some (false, .ilist a), some (false, .ilist b), some (false, .none)], by simp only [b10, J0, J1, J2, J3, J4, J5, J6, J7, J8, J9, K0, K1, K2, K3, K4, K5, K6, K7, K8, K9, Q0, Q1, Q2, Q3, Q4, Q5, Q6, Q7, Q8, Q9, U0, U1, U2, U3, U4, U5, U6, U7, U8, U9, V0, V1, V2, V3, V4, V5, V6, V7, V8, V9, W0, W1, W2, W3, Cp, Co, Cu, Ct, Ch, Cq, Dm, Dl, Dz, Dw, Dy, Dx, Dk, Dc, Cs, Cg, Cn, Dn, Dd, De, Dp, Do, Dr, Ds, Dt, Du, Cv, Cw, Da, Db, Cj, Ci, Cf, Ce, Bz, Ca, Cb, Bw, Bs, Bt, Bv, Bu, Br, Bo, Bp, Bq, Dq, Cd, Bx, By, Cc, Di, Cm, Cl, Ck, Df, Dg, Dh, hea, heb, Bool.not_true, Bool.not_false, h2, exV], rfl⟩
      | some q => exact ⟨.ret (.ilist q), [some (false, .ilist a), some (false, .ilist b), some (false, .ilist q)], by simp only [b10, J0, J1, J2, J3, J4, J5, J6, J7, J8, J9, K0, K1, K2, K3, K4, K5, K6, K7, K8, K9, Q0, Q1, Q2, Q3, Q4, Q5, Q6, Q7, Q8, Q9, U0, U1, U2, U3, U4, U5, U6, U7, U8, U9, V0, V1, V2, V3, V4, V5, V6, V7, V8, V9, W0, W1, W2, W3, Cp, Co, Cu, Ct, Ch, Cq, Dm, Dl, Dz, Dw, Dy, Dx, Dk, Dc, Cs, Cg, Cn, Dn, Dd, De, Dp, Do, Dr, Ds, Dt, Du, Cv, Cw, Da, Db, Cj, Ci, Cf, Ce, Bz, Ca, Cb, Bw, Bs, Bt, Bv, Bu, Br, Bo, Bp, Bq, Dq, Cd, Bx, By, Cc, Di, Cm, Cl, Ck, Df, Dg, Dh, hea, heb, Bool.not_true, Bool.not_false, h2, exV], rfl⟩
noncomputable def Eg : Nat → List Int → List Int → Option (List Int)
  | 0, _, _ => none
  | n + 1, x, y => if y = [] then some x else match Ev x y with
    | some r => (match Es r with
      | some y' => Eg n y y'
      | none => none)
    | none => none
noncomputable def gcdP (a b : List Int) : Option (List Int) := match primitive a, primitive b with
  | some x, some y => (match Eg (y.length + 2) x y with
    | some z => if z = [] then some [] else (match primitive z with
      | some p => if LIM < p.length then none else Id (Int.gcd (content a) (content b)) p
      | none => none)
    | none => none)
  | _, _ => none
set_option tactic.hygienic true in
theorem while_gcd (h3 : ∀ x y r, Ev x y = some r → F 3 [.ilist x, .ilist y] = some (.val (.ilist r))) (h4 : ∀ z r, Es z = some r → F 4 [.ilist z] = some (.val (.ilist r))) {A B Gv P : Option (Bool × AV)} : ∀ (n : Nat) (x y : List Int) (rv : Option (Bool × AV)) (z : List Int) (k : Nat), Eg n x y = some z → n ≤ k → ∃ rv',
    Ej (Bc G F b13c0) (Ah G F N b13d0) k [A, B, Gv, some (false, .ilist x), some (false, .ilist y), rv, P] = some (.next, [A, B, Gv, some (false, .ilist z), some (false, .ilist []), rv', P])
  | 0, x, y, rv, z, k, h, _ => by simp [Eg] at h
  | n + 1, x, y, rv, z, 0, h, hk => by exact absurd ‹_› (Nat.not_succ_le_zero _)
  | n + 1, x, y, rv, z, k + 1, h, hk => by
    simp only [Eg] at h
    split at h
    · rename_i hy
      cases h; subst hy
      exact ⟨rv, Hk (by first | exact rfl | simp only [b13c0, J0, J1, J2, J3, J4, J5, J6, J7, J8, J9, K0, K1, K2, K3, K4, K5, K6, K7, K8, K9, Q0, Q1, Q2, Q3, Q4, Q5, Q6, Q7, Q8, Q9, U0, U1, U2, U3, U4, U5, U6, U7, U8, U9, V0, V1, V2, V3, V4, V5, V6, V7, V8, V9, W0, W1, W2, W3, Cp, Co, Cu, Ct, Ch, Cq, Dm, Dl, Dz, Dw, Dy, Dx, Dk, Dc, Cs, Cg, Cn, Dn, Dd, De, Dp, Do, Dr, Ds, Dt, Du, Cv, Cw, Da, Db, Cj, Ci, Cf, Ce, Bz, Ca, Cb, Bw, Bs, Bt, Bv, Bu, Br, Bo, Bp, Bq, Dq, Cd, Bx, By, Cc, Di, Cm, Cl, Ck, Df, Dg, Dh, List.isEmpty_nil, Bool.not_true])⟩
    · rename_i hy
      have hey : y.isEmpty = false := by rw [Fa]; simpa using hy
      split at h
      · rename_i r hr
        split at h
        · rename_i y' hy'
          obtain ⟨rv', ih⟩ := while_gcd h3 h4 (A := A) (B := B) (Gv := Gv) (P := P) n y y' (some (false, .ilist r)) z k h (by exact Nat.le_of_succ_le_succ ‹_›)
          refine ⟨rv', ?_⟩
          rw [← ih]
          refine Hp (by first | exact rfl | simp only [b13c0, J0, J1, J2, J3, J4, J5, J6, J7, J8, J9, K0, K1, K2, K3, K4, K5, K6, K7, K8, K9, Q0, Q1, Q2, Q3, Q4, Q5, Q6, Q7, Q8, Q9, U0, U1, U2, U3, U4, U5, U6, U7, U8, U9, V0, V1, V2, V3, V4, V5, V6, V7, V8, V9, W0, W1, W2, W3, Cp, Co, Cu, Ct, Ch, Cq, Dm, Dl, Dz, Dw, Dy, Dx, Dk, Dc, Cs, Cg, Cn, Dn, Dd, De, Dp, Do, Dr, Ds, Dt, Du, Cv, Cw, Da, Db, Cj, Ci, Cf, Ce, Bz, Ca, Cb, Bw, Bs, Bt, Bv, Bu, Br, Bo, Bp, Bq, Dq, Cd, Bx, By, Cc, Di, Cm, Cl, Ck, Df, Dg, Dh, hey, Bool.not_false]) ?_
          simp only [b13d0, J0, J1, J2, J3, J4, J5, J6, J7, J8, J9, K0, K1, K2, K3, K4, K5, K6, K7, K8, K9, Q0, Q1, Q2, Q3, Q4, Q5, Q6, Q7, Q8, Q9, U0, U1, U2, U3, U4, U5, U6, U7, U8, U9, V0, V1, V2, V3, V4, V5, V6, V7, V8, V9, W0, W1, W2, W3, Cp, Co, Cu, Ct, Ch, Cq, Dm, Dl, Dz, Dw, Dy, Dx, Dk, Dc, Cs, Cg, Cn, Dn, Dd, De, Dp, Do, Dr, Ds, Dt, Du, Cv, Cw, Da, Db, Cj, Ci, Cf, Ce, Bz, Ca, Cb, Bw, Bs, Bt, Bv, Bu, Br, Bo, Bp, Bq, Dq, Cd, Bx, By, Cc, Di, Cm, Cl, Ck, Df, Dg, Dh, h3 x y r hr, h4 r y' hy']
        · cases h
      · cases h
set_option tactic.hygienic true in
theorem run_gcdP (h1 : ∀ x y, F 1 [.int x, .int y] = some (.val (.int (Int.gcd x y)))) (h3 : ∀ x y r, Ev x y = some r → F 3 [.ilist x, .ilist y] = some (.val (.ilist r))) (h4 : ∀ z r, Es z = some r → F 4 [.ilist z] = some (.val (.ilist r)))
    (h17 : ∀ a, F 11 [.ilist a] = some (.val (.int (content a)))) (h18 : ∀ a r, primitive a = some r → F 12 [.ilist a] = some (.val (.ilist r))) (a b r : List Int) (hr : gcdP a b = some r) (hN : b.length + 2 ≤ N) :
    ∃ σ', Ah G F N b13.body [some (false, .ilist a), some (false, .ilist b), none, none, none, none, none] = some (.ret (.ilist r), σ') := by
  unfold gcdP at hr
  split at hr
  · rename_i x y hx hy
    split at hr
    · rename_i z hz
      have hyl : y.length ≤ b.length := by
        unfold primitive at hy
        split at hy
        · cases hy; exact Nat.zero_le _
        · split at hy <;> cases hy
          simp
      obtain ⟨rv', h⟩ := while_gcd (G := G) (N := N) h3 h4 (A := some (false, .ilist a)) (B := some (false, .ilist b)) (Gv := some (false, .int (Int.gcd (content a) (content b)))) (P := none) _ x y none z N hz (by lia)
      split at hr
      · rename_i hz0
        cases hr; subst hz0
        refine ⟨[some (false, .ilist a), some (false, .ilist b), some (false, .int (Int.gcd (content a) (content b))), some (false, .ilist []), some (false, .ilist []), rv', none], ?_⟩
        simp only [b13, J0, J1, J2, J3, J4, J5, J6, J7, J8, J9, K0, K1, K2, K3, K4, K5, K6, K7, K8, K9, Q0, Q1, Q2, Q3, Q4, Q5, Q6, Q7, Q8, Q9, U0, U1, U2, U3, U4, U5, U6, U7, U8, U9, V0, V1, V2, V3, V4, V5, V6, V7, V8, V9, W0, W1, W2, W3, Cp, Co, Cu, Ct, Ch, Cq, Dm, Dl, Dz, Dw, Dy, Dx, Dk, Dc, Cs, Cg, Cn, Dn, Dd, De, Dp, Do, Dr, Ds, Dt, Du, Cv, Cw, Da, Db, Cj, Ci, Cf, Ce, Bz, Ca, Cb, Bw, Bs, Bt, Bv, Bu, Br, Bo, Bp, Bq, Dq, Cd, Bx, By, Cc, Di, Cm, Cl, Ck, Df, Dg, Dh, h17, h1, h18 a x hx, h18 b y hy, h, List.isEmpty_nil, Bool.not_true, Bool.not_false, List.length_nil, Nat.zero_le, if_true, mkL0]
      · rename_i hz0
        have hez : z.isEmpty = false := by rw [Fa]; simpa using hz0
        split at hr
        · rename_i p hp
          split at hr
          · cases hr
          · rename_i hlp
            unfold Id at hr
            split at hr <;> cases hr
            rename_i hall
            refine ⟨[some (false, .ilist a), some (false, .ilist b), some (false, .int (Int.gcd (content a) (content b))), some (false, .ilist z), some (false, .ilist []), rv', some (false, .ilist p)], ?_⟩
            have hcomp := Gj (G := G) (F := F) (σ := [some (false, .ilist a), some (false, .ilist b), some (false, .int (Int.gcd (content a) (content b))), some (false, .ilist z), some (false, .ilist []), rv', some (false, .ilist p)]) (elt := .bin .mul (.rd 2) (.rd 7)) (z := p) ((Int.gcd (content a) (content b) : Int) * ·) (fun c hc => by
              have := List.all_eq_true.mp hall c hc
              simp only [List.cons_append, List.nil_append, J0, J1, J2, J3, J4, J5, J6, J7, J8, J9, K0, K1, K2, K3, K4, K5, K6, K7, K8, K9, Q0, Q1, Q2, Q3, Q4, Q5, Q6, Q7, Q8, Q9, U0, U1, U2, U3, U4, U5, U6, U7, U8, U9, V0, V1, V2, V3, V4, V5, V6, V7, V8, V9, W0, W1, W2, W3, Cp, Co, Cu, Ct, Ch, Cq, Dm, Dl, Dz, Dw, Dy, Dx, Dk, Dc, Cs, Cg, Cn, Dn, Dd, De, Dp, Do, Dr, Ds, Dt, Du, Cv, Cw, Da, Db, Cj, Ci, Cf, Ce, Bz, Ca, Cb, Bw, Bs, Bt, Bv, Bu, Br, Bo, Bp, Bq, Dq, Cd, Bx, By, Cc, Di, Cm, Cl, Ck, Df, Dg, Dh, this, if_true])
            have hl : (p.map AV.int).length ≤ LIM := by simp only [List.length_map]; exact Nat.le_of_not_lt ‹_›
            simp only [b13, J0, J1, J2, J3, J4, J5, J6, J7, J8, J9, K0, K1, K2, K3, K4, K5, K6, K7, K8, K9, Q0, Q1, Q2, Q3, Q4, Q5, Q6, Q7, Q8, Q9, U0, U1, U2, U3, U4, U5, U6, U7, U8, U9, V0, V1, V2, V3, V4, V5, V6, V7, V8, V9, W0, W1, W2, W3, Cp, Co, Cu, Ct, Ch, Cq, Dm, Dl, Dz, Dw, Dy, Dx, Dk, Dc, Cs, Cg, Cn, Dn, Dd, De, Dp, Do, Dr, Ds, Dt, Du, Cv, Cw, Da, Db, Cj, Ci, Cf, Ce, Bz, Ca, Cb, Bw, Bs, Bt, Bv, Bu, Br, Bo, Bp, Bq, Dq, Cd, Bx, By, Cc, Di, Cm, Cl, Ck, Df, Dg, Dh, h17, h1, h18 a x hx, h18 b y hy, h, hez, Bool.not_true, Bool.not_false, h18 z p hp, Bl, hl, if_true, hcomp, Fg]
        · cases hr
    · cases hr
  · cases hr
end
end Mine
end
section
open PySem
namespace Mine
set_option tactic.hygienic false
set_option autoImplicit false
section
variable {G : Str → Option AV} {F : Nat → List AV → Option Res} {N : Nat}
noncomputable def encP (p : List Int × Int) : AV := .tup [.ilist p.1, .int p.2]
noncomputable def Ak (l : List (List Int × Int)) : AV := match l with
  | [] => .ilist []
  | p :: r => .list ((p :: r).map encP)
theorem append_out (l : List (List Int × Int)) (p : List Int × Int) (h : l.length < LIM) : Gc (Ak l) (.tup [.ilist p.1, .int p.2]) = some (Ak (l ++ [p])) := by
  cases l with
  | nil => simp only [Ak, Gc, List.length_nil]; rw [if_pos (by decide)]; rfl
  | cons q r =>
    simp only [Ak, Gc, List.length_map]
    rw [if_pos h]
    simp only [List.cons_append, List.map_cons, List.map_append, List.map_nil]; rfl
noncomputable def Fl : Nat → List Int → List Int → Int → List (List Int × Int) → Option (List (List Int × Int))
  | 0, _, _, _, _ => none
  | n + 1, w, g, i, out => if ¬ 1 < w.length then some out else match gcdP w g with
    | some d => (match primitive d with
      | some y => (match Ec w y, Ec g y with
        | some (some z), some (some g') => if LIM ≤ out.length then none else Fl n y g' (i + 1) (if 1 < z.length then out ++ [(z, i)] else out)
        | _, _ => none)
      | none => none)
    | none => none
noncomputable def Jg (b : List Int) : Option (List (List Int × Int)) := if b.length < 2 then some [] else match derivative b with
  | some b' => (match gcdP b b' with
    | some d => (match primitive d with
      | some g => (match Ec b g with
        | some (some w) => Fl (b.length + 2) w g 1 []
        | _ => none)
      | none => none)
    | none => none)
  | none => none
noncomputable def sqf (a : List Int) : Option (Int × List (List Int × Int)) := match primitive a with
  | some b => (match Jg b with
    | some l => some (content a, l)
    | none => none)
  | none => none
set_option tactic.hygienic true in
theorem while_sf (h16 : ∀ a b q, Ec a b = some (some q) → F 10 [.ilist a, .ilist b] = some (.val (.ilist q))) (h18 : ∀ a r, primitive a = some r → F 12 [.ilist a] = some (.val (.ilist r))) (h19 : ∀ a b r, gcdP a b = some r → F 13 [.ilist a, .ilist b] = some (.val (.ilist r))) {A C B : Option (Bool × AV)} :
    ∀ (n : Nat) (w g : List Int) (i : Int) (out : List (List Int × Int)) (yv zv : Option (Bool × AV)) (r : List (List Int × Int)) (k : Nat), Fl n w g i out = some r → n ≤ k → ∃ w' g' i' yv' zv',
    Ej (Bc G F b14c0) (Ah G F N b14d0) k [A, C, B, some (false, .ilist g), some (false, .ilist w), some (false, .int i), some (true, Ak out), yv, zv] = some (.next, [A, C, B, g', w', i', some (true, Ak r), yv', zv'])
  | 0, w, g, i, out, yv, zv, r, k, h, _ => by simp [Fl] at h
  | n + 1, w, g, i, out, yv, zv, r, 0, h, hk => by exact absurd ‹_› (Nat.not_succ_le_zero _)
  | n + 1, w, g, i, out, yv, zv, r, k + 1, h, hk => by
    simp only [Fl] at h
    split at h
    · rename_i hw
      cases h
      have hd : decide ((w.length : Int) > 1) = false := by simp only [gt_iff_lt, decide_eq_false_iff_not]; exact mt Int.ofNat_lt.mp ‹_›
      exact ⟨_, _, _, _, _, Hk (by first | exact rfl | simp only [b14c0, J0, J1, J2, J3, J4, J5, J6, J7, J8, J9, K0, K1, K2, K3, K4, K5, K6, K7, K8, K9, Q0, Q1, Q2, Q3, Q4, Q5, Q6, Q7, Q8, Q9, U0, U1, U2, U3, U4, U5, U6, U7, U8, U9, V0, V1, V2, V3, V4, V5, V6, V7, V8, V9, W0, W1, W2, W3, Cp, Co, Cu, Ct, Ch, Cq, Dm, Dl, Dz, Dw, Dy, Dx, Dk, Dc, Cs, Cg, Cn, Dn, Dd, De, Dp, Do, Dr, Ds, Dt, Du, Cv, Cw, Da, Db, Cj, Ci, Cf, Ce, Bz, Ca, Cb, Bw, Bs, Bt, Bv, Bu, Br, Bo, Bp, Bq, Dq, Cd, Bx, By, Cc, Di, Cm, Cl, Ck, Df, Dg, Dh, hd])⟩
    · rename_i hw
      have hd : decide ((w.length : Int) > 1) = true := by simp only [gt_iff_lt, decide_eq_true_eq]; lia
      split at h
      · rename_i d hgd
        split at h
        · rename_i y hy
          split at h
          · rename_i z g' hz hg'
            split at h
            · cases h
            · rename_i hlo
              obtain ⟨w', g'', i', yv', zv', ih⟩ := while_sf h16 h18 h19 (A := A) (C := C) (B := B) n y g' (i + 1) _ (some (false, .ilist y)) (some (false, .ilist z)) r k h (by exact Nat.le_of_succ_le_succ ‹_›)
              refine ⟨w', g'', i', yv', zv', ?_⟩
              rw [← ih]
              refine Hp (by first | exact rfl | simp only [b14c0, J0, J1, J2, J3, J4, J5, J6, J7, J8, J9, K0, K1, K2, K3, K4, K5, K6, K7, K8, K9, Q0, Q1, Q2, Q3, Q4, Q5, Q6, Q7, Q8, Q9, U0, U1, U2, U3, U4, U5, U6, U7, U8, U9, V0, V1, V2, V3, V4, V5, V6, V7, V8, V9, W0, W1, W2, W3, Cp, Co, Cu, Ct, Ch, Cq, Dm, Dl, Dz, Dw, Dy, Dx, Dk, Dc, Cs, Cg, Cn, Dn, Dd, De, Dp, Do, Dr, Ds, Dt, Du, Cv, Cw, Da, Db, Cj, Ci, Cf, Ce, Bz, Ca, Cb, Bw, Bs, Bt, Bv, Bu, Br, Bo, Bp, Bq, Dq, Cd, Bx, By, Cc, Di, Cm, Cl, Ck, Df, Dg, Dh, hd]) ?_
              by_cases hzl : 1 < z.length
              · have hdz : decide ((z.length : Int) > 1) = true := by simp only [gt_iff_lt, decide_eq_true_eq]; exact ZS ‹_›
                have hap := append_out out (z, i) (by exact Nat.lt_of_not_le ‹_›)
                simp only [b14d0, J0, J1, J2, J3, J4, J5, J6, J7, J8, J9, K0, K1, K2, K3, K4, K5, K6, K7, K8, K9, Q0, Q1, Q2, Q3, Q4, Q5, Q6, Q7, Q8, Q9, U0, U1, U2, U3, U4, U5, U6, U7, U8, U9, V0, V1, V2, V3, V4, V5, V6, V7, V8, V9, W0, W1, W2, W3, Cp, Co, Cu, Ct, Ch, Cq, Dm, Dl, Dz, Dw, Dy, Dx, Dk, Dc, Cs, Cg, Cn, Dn, Dd, De, Dp, Do, Dr, Ds, Dt, Du, Cv, Cw, Da, Db, Cj, Ci, Cf, Ce, Bz, Ca, Cb, Bw, Bs, Bt, Bv, Bu, Br, Bo, Bp, Bq, Dq, Cd, Bx, By, Cc, Di, Cm, Cl, Ck, Df, Dg, Dh, h19 w g d hgd, h18 d y hy, h16 w y z hz, hdz, List.length_cons, List.length_nil, hap, h16 g y g' hg', hzl, lim2, if_true]
              · have hdz : decide ((z.length : Int) > 1) = false := by simp only [gt_iff_lt, decide_eq_false_iff_not]; exact mt Int.ofNat_lt.mp ‹_›
                simp only [b14d0, J0, J1, J2, J3, J4, J5, J6, J7, J8, J9, K0, K1, K2, K3, K4, K5, K6, K7, K8, K9, Q0, Q1, Q2, Q3, Q4, Q5, Q6, Q7, Q8, Q9, U0, U1, U2, U3, U4, U5, U6, U7, U8, U9, V0, V1, V2, V3, V4, V5, V6, V7, V8, V9, W0, W1, W2, W3, Cp, Co, Cu, Ct, Ch, Cq, Dm, Dl, Dz, Dw, Dy, Dx, Dk, Dc, Cs, Cg, Cn, Dn, Dd, De, Dp, Do, Dr, Ds, Dt, Du, Cv, Cw, Da, Db, Cj, Ci, Cf, Ce, Bz, Ca, Cb, Bw, Bs, Bt, Bv, Bu, Br, Bo, Bp, Bq, Dq, Cd, Bx, By, Cc, Di, Cm, Cl, Ck, Df, Dg, Dh, h19 w g d hgd, h18 d y hy, h16 w y z hz, hdz, h16 g y g' hg', hzl, if_false]
          · cases h
        · cases h
      · cases h
set_option tactic.hygienic true in
theorem run_sqf (h14 : ∀ a r, derivative a = some r → F 7 [.ilist a] = some (.val (.ilist r))) (h16 : ∀ a b q, Ec a b = some (some q) → F 10 [.ilist a, .ilist b] = some (.val (.ilist q))) (h17 : ∀ a, F 11 [.ilist a] = some (.val (.int (content a))))
    (h18 : ∀ a r, primitive a = some r → F 12 [.ilist a] = some (.val (.ilist r))) (h19 : ∀ a b r, gcdP a b = some r → F 13 [.ilist a, .ilist b] = some (.val (.ilist r))) (a : List Int) (r : Int × List (List Int × Int)) (hr : sqf a = some r) (hN : a.length + 2 ≤ N) :
    ∃ σ', Ah G F N b14.body [some (false, .ilist a), none, none, none, none, none, none, none, none] = some (.ret (.tup [.int r.1, Ak r.2]), σ') := by
  unfold sqf at hr
  split at hr
  · rename_i b hb
    split at hr
    · rename_i l hl
      cases hr
      have hbl : b.length ≤ a.length := by
        unfold primitive at hb
        split at hb
        · cases hb; exact Nat.zero_le _
        · split at hb <;> cases hb
          simp
      unfold Jg at hl
      split at hl
      · rename_i hb2
        cases hl
        have hd : decide ((b.length : Int) < 2) = true := by simp only [decide_eq_true_eq]; lia
        refine ⟨[some (false, .ilist a), some (false, .int (content a)), some (false, .ilist b), none, none, none, none, none, none], ?_⟩
        simp only [b14, J0, J1, J2, J3, J4, J5, J6, J7, J8, J9, K0, K1, K2, K3, K4, K5, K6, K7, K8, K9, Q0, Q1, Q2, Q3, Q4, Q5, Q6, Q7, Q8, Q9, U0, U1, U2, U3, U4, U5, U6, U7, U8, U9, V0, V1, V2, V3, V4, V5, V6, V7, V8, V9, W0, W1, W2, W3, Cp, Co, Cu, Ct, Ch, Cq, Dm, Dl, Dz, Dw, Dy, Dx, Dk, Dc, Cs, Cg, Cn, Dn, Dd, De, Dp, Do, Dr, Ds, Dt, Du, Cv, Cw, Da, Db, Cj, Ci, Cf, Ce, Bz, Ca, Cb, Bw, Bs, Bt, Bv, Bu, Br, Bo, Bp, Bq, Dq, Cd, Bx, By, Cc, Di, Cm, Cl, Ck, Df, Dg, Dh, h17, h18 a b hb, hd, List.length_cons, List.length_nil, Nat.zero_le, if_true, mkL0, lim2]
        rfl
      · rename_i hb2
        have hd : decide ((b.length : Int) < 2) = false := by simp only [decide_eq_false_iff_not]; exact mt Int.ofNat_lt.mp ‹_›
        split at hl
        · rename_i b' hb'
          split at hl
          · rename_i dd hdd
            split at hl
            · rename_i g hg
              split at hl
              · rename_i w hw
                obtain ⟨w', g', i', yv', zv', h⟩ := while_sf (G := G) (N := N) h16 h18 h19 (A := some (false, .ilist a)) (C := some (false, .int (content a))) (B := some (false, .ilist b)) _ w g 1 [] none none l N hl (by lia)
                have h' : Ej (Bc G F b14c0) (Ah G F N b14d0) N [some (false, .ilist a), some (false, .int (content a)), some (false, .ilist b), some (false, .ilist g), some (false, .ilist w), some (false, .int 1), some (true, .ilist []), none, none] = some (.next, [some (false, .ilist a), some (false, .int (content a)), some (false, .ilist b), g', w', i', some (true, Ak l), yv', zv']) := h
                refine ⟨[some (false, .ilist a), some (false, .int (content a)), some (false, .ilist b), g', w', i', some (false, Ak l), yv', zv'], ?_⟩
                simp only [b14, J0, J1, J2, J3, J4, J5, J6, J7, J8, J9, K0, K1, K2, K3, K4, K5, K6, K7, K8, K9, Q0, Q1, Q2, Q3, Q4, Q5, Q6, Q7, Q8, Q9, U0, U1, U2, U3, U4, U5, U6, U7, U8, U9, V0, V1, V2, V3, V4, V5, V6, V7, V8, V9, W0, W1, W2, W3, Cp, Co, Cu, Ct, Ch, Cq, Dm, Dl, Dz, Dw, Dy, Dx, Dk, Dc, Cs, Cg, Cn, Dn, Dd, De, Dp, Do, Dr, Ds, Dt, Du, Cv, Cw, Da, Db, Cj, Ci, Cf, Ce, Bz, Ca, Cb, Bw, Bs, Bt, Bv, Bu, Br, Bo, Bp, Bq, Dq, Cd, Bx, By, Cc, Di, Cm, Cl, Ck, Df, Dg, Dh, h17, h18 a b hb, hd, h14 b b' hb', h19 b b' dd hdd, h18 dd g hg, h16 b g w hw, List.length_nil, Nat.zero_le, if_true, mkL0, h', freeze, List.length_cons, lim2]
              · cases hl
            · cases hl
          · cases hl
        · cases hl
    · cases hr
  · cases hr
theorem getD_some {l : List Int} {n : Nat} (h : n < l.length) : l[n]? = some (l.getD n 0) := by
  rw [List.getD_eq_getElem?_getD, List.getElem?_eq_getElem h]; rfl
end
end Mine
end
section
open PySem
namespace Mine
set_option tactic.hygienic false
set_option autoImplicit false
theorem lt_true {a b : Nat} (h : a < b) : decide ((a : Int) < (b : Int)) = true := decide_eq_true (Int.ofNat_lt.mpr h)
theorem lt_false {a b : Nat} (h : b ≤ a) : decide ((a : Int) < (b : Int)) = false := decide_eq_false (mt Int.ofNat_lt.mp (Nat.not_lt_of_le h))
theorem getD_none {l : List Int} {n : Nat} (h : l.length ≤ n) : l.getD n 0 = 0 := by rw [List.getD_eq_getElem?_getD, List.getElem?_eq_none h]; rfl
noncomputable def addL (a b : List Int) (k : Nat) : Int := a.getD k 0 + b.getD k 0
noncomputable def addP (a b : List Int) : List Int := trim ((List.range (max a.length b.length)).map (addL a b))
section
variable {G : Str → Option AV} {F : Nat → List AV → Option Res} {N : Nat}
theorem for_addp {a b : List Int} {nv : Option (Bool × AV)} : ∀ (ks : List Nat) (out : List Int) (kv xv yv : Option (Bool × AV)), out.length + ks.length ≤ LIM → ∃ kv' xv' yv',
    Ee [4] (Ah G F N b5d0) (ks.map fun (i : Nat) => AV.int (i : Int)) [some (false, .ilist a), some (false, .ilist b), nv, some (true, .ilist out), kv, xv, yv] =
      some (.next, [some (false, .ilist a), some (false, .ilist b), nv, some (true, .ilist (out ++ ks.map (addL a b))), kv', xv', yv'])
  | [], out, kv, xv, yv, h => ⟨kv, xv, yv, by rw [List.map_nil, List.map_nil, List.append_nil, f_nil]⟩
  | k :: ks, out, kv, xv, yv, h => by
    obtain ⟨kv', xv', yv', ih⟩ := for_addp (a := a) (b := b) (nv := nv) ks (out ++ [addL a b k]) (some (false, .int (k : Int))) (some (false, .int (a.getD k 0))) (some (false, .int (b.getD k 0))) (by simp only [List.length_append, List.length_cons, List.length_nil] at h ⊢; exact ZW ‹_›)
    refine ⟨kv', xv', yv', ?_⟩
    have e0 : out ++ (k :: ks).map (addL a b) = (out ++ [addL a b k]) ++ ks.map (addL a b) := by simp
    rw [List.map_cons, e0, ← ih]
    refine Fq ?_
    have hlo : out.length < LIM := by simp only [List.length_cons] at h; exact ZV ‹_›
    simp only [b5d0]
    rw [Ag (σ' := [some (false, .ilist a), some (false, .ilist b), nv, some (true, .ilist out), some (false, .int (k : Int)), some (false, .int 0), yv]) rfl]
    rw [Ag (σ' := [some (false, .ilist a), some (false, .ilist b), nv, some (true, .ilist out), some (false, .int (k : Int)), some (false, .int (a.getD k 0)), yv]) (by
      by_cases q : k < a.length
      · simp only [J0, J1, J2, J3, J4, J5, J6, J7, J8, J9, K0, K1, K2, K3, K4, K5, K6, K7, K8, K9, Q0, Q1, Q2, Q3, Q4, Q5, Q6, Q7, Q8, Q9, U0, U1, U2, U3, U4, U5, U6, U7, U8, U9, V0, V1, V2, V3, V4, V5, V6, V7, V8, V9, W0, W1, W2, W3, Cp, Co, Cu, Ct, Ch, Cq, Dm, Dl, Dz, Dw, Dy, Dx, Dk, Dc, Cs, Cg, Cn, Dn, Dd, De, Dp, Do, Dr, Ds, Dt, Du, Cv, Cw, Da, Db, Cj, Ci, Cf, Ce, Bz, Ca, Cb, Bw, Bs, Bt, Bv, Bu, Br, Bo, Bp, Bq, Dq, Cd, Bx, By, Cc, Di, Cm, Cl, Ck, Df, Dg, Dh, lt_true q, Az, Bj, getD_some q]
      · rw [getD_none (Nat.le_of_not_lt q)]; simp only [J0, J1, J2, J3, J4, J5, J6, J7, J8, J9, K0, K1, K2, K3, K4, K5, K6, K7, K8, K9, Q0, Q1, Q2, Q3, Q4, Q5, Q6, Q7, Q8, Q9, U0, U1, U2, U3, U4, U5, U6, U7, U8, U9, V0, V1, V2, V3, V4, V5, V6, V7, V8, V9, W0, W1, W2, W3, Cp, Co, Cu, Ct, Ch, Cq, Dm, Dl, Dz, Dw, Dy, Dx, Dk, Dc, Cs, Cg, Cn, Dn, Dd, De, Dp, Do, Dr, Ds, Dt, Du, Cv, Cw, Da, Db, Cj, Ci, Cf, Ce, Bz, Ca, Cb, Bw, Bs, Bt, Bv, Bu, Br, Bo, Bp, Bq, Dq, Cd, Bx, By, Cc, Di, Cm, Cl, Ck, Df, Dg, Dh, lt_false (Nat.le_of_not_lt q)])]
    rw [Ag (σ' := [some (false, .ilist a), some (false, .ilist b), nv, some (true, .ilist out), some (false, .int (k : Int)), some (false, .int (a.getD k 0)), some (false, .int 0)]) rfl]
    rw [Ag (σ' := [some (false, .ilist a), some (false, .ilist b), nv, some (true, .ilist out), some (false, .int (k : Int)), some (false, .int (a.getD k 0)), some (false, .int (b.getD k 0))]) (by
      by_cases q : k < b.length
      · simp only [J0, J1, J2, J3, J4, J5, J6, J7, J8, J9, K0, K1, K2, K3, K4, K5, K6, K7, K8, K9, Q0, Q1, Q2, Q3, Q4, Q5, Q6, Q7, Q8, Q9, U0, U1, U2, U3, U4, U5, U6, U7, U8, U9, V0, V1, V2, V3, V4, V5, V6, V7, V8, V9, W0, W1, W2, W3, Cp, Co, Cu, Ct, Ch, Cq, Dm, Dl, Dz, Dw, Dy, Dx, Dk, Dc, Cs, Cg, Cn, Dn, Dd, De, Dp, Do, Dr, Ds, Dt, Du, Cv, Cw, Da, Db, Cj, Ci, Cf, Ce, Bz, Ca, Cb, Bw, Bs, Bt, Bv, Bu, Br, Bo, Bp, Bq, Dq, Cd, Bx, By, Cc, Di, Cm, Cl, Ck, Df, Dg, Dh, lt_true q, Az, Bj, getD_some q]
      · rw [getD_none (Nat.le_of_not_lt q)]; simp only [J0, J1, J2, J3, J4, J5, J6, J7, J8, J9, K0, K1, K2, K3, K4, K5, K6, K7, K8, K9, Q0, Q1, Q2, Q3, Q4, Q5, Q6, Q7, Q8, Q9, U0, U1, U2, U3, U4, U5, U6, U7, U8, U9, V0, V1, V2, V3, V4, V5, V6, V7, V8, V9, W0, W1, W2, W3, Cp, Co, Cu, Ct, Ch, Cq, Dm, Dl, Dz, Dw, Dy, Dx, Dk, Dc, Cs, Cg, Cn, Dn, Dd, De, Dp, Do, Dr, Ds, Dt, Du, Cv, Cw, Da, Db, Cj, Ci, Cf, Ce, Bz, Ca, Cb, Bw, Bs, Bt, Bv, Bu, Br, Bo, Bp, Bq, Dq, Cd, Bx, By, Cc, Di, Cm, Cl, Ck, Df, Dg, Dh, lt_false (Nat.le_of_not_lt q)])]
    simp only [J0, J1, J2, J3, J4, J5, J6, J7, J8, J9, K0, K1, K2, K3, K4, K5, K6, K7, K8, K9, Q0, Q1, Q2, Q3, Q4, Q5, Q6, Q7, Q8, Q9, U0, U1, U2, U3, U4, U5, U6, U7, U8, U9, V0, V1, V2, V3, V4, V5, V6, V7, V8, V9, W0, W1, W2, W3, Cp, Co, Cu, Ct, Ch, Cq, Dm, Dl, Dz, Dw, Dy, Dx, Dk, Dc, Cs, Cg, Cn, Dn, Dd, De, Dp, Do, Dr, Ds, Dt, Du, Cv, Cw, Da, Db, Cj, Ci, Cf, Ce, Bz, Ca, Cb, Bw, Bs, Bt, Bv, Bu, Br, Bo, Bp, Bq, Dq, Cd, Bx, By, Cc, Di, Cm, Cl, Ck, Df, Dg, Dh, Gc, hlo, if_true]
    rfl
theorem run_addp (h0 : ∀ a, F 0 [.ilist a] = some (.val (.ilist (trim a)))) {a b : List Int} (ha : a.length ≤ LIM) (hb : b.length ≤ LIM) : ∃ σ', Ah G F N b5.body [some (false, .ilist a), some (false, .ilist b), none, none, none, none, none] = some (.ret (.ilist (addP a b)), σ') := by
  have hm : max a.length b.length ≤ LIM := Nat.max_le.mpr ⟨ha, hb⟩
  obtain ⟨kv', xv', yv', h⟩ := for_addp (G := G) (F := F) (N := N) (a := a) (b := b) (nv := some (false, .int ((max a.length b.length : Nat) : Int))) (List.range (max a.length b.length)) [] none none none (by rw [List.length_range, List.length_nil, Nat.zero_add]; exact hm)
  refine ⟨[some (false, .ilist a), some (false, .ilist b), some (false, .int ((max a.length b.length : Nat) : Int)), some (false, .ilist ((List.range (max a.length b.length)).map (addL a b))), kv', xv', yv'], ?_⟩
  have e1 : (if (b.length : Int) > (a.length : Int) then (b.length : Int) else (a.length : Int)) = ((max a.length b.length : Nat) : Int) := by split <;> lia
  simp only [b5]
  rw [Ag (σ' := [some (false, .ilist a), some (false, .ilist b), some (false, .int ((max a.length b.length : Nat) : Int)), none, none, none, none]) (by simp only [J0, J1, J2, J3, J4, J5, J6, J7, J8, J9, K0, K1, K2, K3, K4, K5, K6, K7, K8, K9, Q0, Q1, Q2, Q3, Q4, Q5, Q6, Q7, Q8, Q9, U0, U1, U2, U3, U4, U5, U6, U7, U8, U9, V0, V1, V2, V3, V4, V5, V6, V7, V8, V9, W0, W1, W2, W3, Cp, Co, Cu, Ct, Ch, Cq, Dm, Dl, Dz, Dw, Dy, Dx, Dk, Dc, Cs, Cg, Cn, Dn, Dd, De, Dp, Do, Dr, Ds, Dt, Du, Cv, Cw, Da, Db, Cj, Ci, Cf, Ce, Bz, Ca, Cb, Bw, Bs, Bt, Bv, Bu, Br, Bo, Bp, Bq, Dq, Cd, Bx, By, Cc, Di, Cm, Cl, Ck, Df, Dg, Dh, m2op, if_true, e1])]
  rw [Ag (σ' := [some (false, .ilist a), some (false, .ilist b), some (false, .int ((max a.length b.length : Nat) : Int)), some (true, .ilist []), none, none, none]) (by simp only [J0, J1, J2, J3, J4, J5, J6, J7, J8, J9, K0, K1, K2, K3, K4, K5, K6, K7, K8, K9, Q0, Q1, Q2, Q3, Q4, Q5, Q6, Q7, Q8, Q9, U0, U1, U2, U3, U4, U5, U6, U7, U8, U9, V0, V1, V2, V3, V4, V5, V6, V7, V8, V9, W0, W1, W2, W3, Cp, Co, Cu, Ct, Ch, Cq, Dm, Dl, Dz, Dw, Dy, Dx, Dk, Dc, Cs, Cg, Cn, Dn, Dd, De, Dp, Do, Dr, Ds, Dt, Du, Cv, Cw, Da, Db, Cj, Ci, Cf, Ce, Bz, Ca, Cb, Bw, Bs, Bt, Bv, Bu, Br, Bo, Bp, Bq, Dq, Cd, Bx, By, Cc, Di, Cm, Cl, Ck, Df, Dg, Dh, List.length_nil, Nat.zero_le, if_true, mkL0])]
  rw [Ag (σ' := [some (false, .ilist a), some (false, .ilist b), some (false, .int ((max a.length b.length : Nat) : Int)), some (true, .ilist ((List.range (max a.length b.length)).map (addL a b))), kv', xv', yv']) (by
    rw [K0, V0, K9, Q1, K9, V6]
    simp only [V8, V9, Hf _ hm, Hw, h, List.nil_append])]
  simp only [J0, J1, J2, J3, J4, J5, J6, J7, J8, J9, K0, K1, K2, K3, K4, K5, K6, K7, K8, K9, Q0, Q1, Q2, Q3, Q4, Q5, Q6, Q7, Q8, Q9, U0, U1, U2, U3, U4, U5, U6, U7, U8, U9, V0, V1, V2, V3, V4, V5, V6, V7, V8, V9, W0, W1, W2, W3, Cp, Co, Cu, Ct, Ch, Cq, Dm, Dl, Dz, Dw, Dy, Dx, Dk, Dc, Cs, Cg, Cn, Dn, Dd, De, Dp, Do, Dr, Ds, Dt, Du, Cv, Cw, Da, Db, Cj, Ci, Cf, Ce, Bz, Ca, Cb, Bw, Bs, Bt, Bv, Bu, Br, Bo, Bp, Bq, Dq, Cd, Bx, By, Cc, Di, Cm, Cl, Ck, Df, Dg, Dh, freeze, h0]
  rfl
noncomputable def compO (b : List Int) : List Int → List Int → Option (List Int)
  | [], out => some out
  | c :: r, out => match multiply out b with
    | some m => if LIM < m.length then none else compO b r (addP m (if c = 0 then [] else [c]))
    | none => none
noncomputable def compose (a b : List Int) : Option (List Int) := compO b a.reverse []
theorem while_comp (h5 : ∀ a b, a.length ≤ LIM → b.length ≤ LIM → F 5 [.ilist a, .ilist b] = some (.val (.ilist (addP a b)))) (h6 : ∀ a b r, multiply a b = some r → F 6 [.ilist a, .ilist b] = some (.val (.ilist r))) {a b : List Int} :
    ∀ (m : Nat) (out r : List Int) (k : Nat) (cv tv : Option (Bool × AV)), m ≤ a.length → m < k → compO b (a.take m).reverse out = some r → ∃ cv' tv',
    Ej (Bc G F b9c0) (Ah G F N b9d0) k [some (false, .ilist a), some (false, .ilist b), some (false, .ilist out), some (false, .int ((m : Int) - 1)), cv, tv] =
      some (.next, [some (false, .ilist a), some (false, .ilist b), some (false, .ilist r), some (false, .int (-1)), cv', tv'])
  | m, out, r, 0, cv, tv, _, h, _ => absurd h (Nat.not_lt_zero _)
  | 0, out, r, k + 1, cv, tv, _, _, h => by
    rw [List.take_zero, List.reverse_nil] at h
    obtain rfl := Option.some.inj h
    exact ⟨cv, tv, Hk rfl⟩
  | m + 1, out, r, k + 1, cv, tv, hm, hk, h => by
    have hlt : m < a.length := hm
    have et : (a.take (m + 1)).reverse = a.getD m 0 :: (a.take m).reverse := by
      rw [List.take_succ, getD_some hlt]; simp
    rw [et] at h
    have hx : ((m + 1 : Nat) : Int) - 1 = (m : Int) := by lia
    simp only [compO] at h
    cases hmul : multiply out b with
    | none => rw [hmul] at h; exact (nS h).elim
    | some p =>
      rw [hmul] at h
      obtain ⟨hlp, h⟩ := iE h
      obtain ⟨cv', tv', ih⟩ := while_comp h5 h6 m _ r k (some (false, .int (a.getD m 0))) (some (false, .ilist (if a.getD m 0 = 0 then [] else [a.getD m 0]))) (Nat.le_of_succ_le hm) (Nat.lt_of_succ_lt_succ hk) h
      refine ⟨cv', tv', ?_⟩
      rw [← ih, hx]
      have hge : decide ((m : Int) ≥ 0) = true := decide_eq_true (Int.natCast_nonneg m)
      refine Hp (by simp only [b9c0, J0, J1, J2, J3, J4, J5, J6, J7, J8, J9, K0, K1, K2, K3, K4, K5, K6, K7, K8, K9, Q0, Q1, Q2, Q3, Q4, Q5, Q6, Q7, Q8, Q9, U0, U1, U2, U3, U4, U5, U6, U7, U8, U9, V0, V1, V2, V3, V4, V5, V6, V7, V8, V9, W0, W1, W2, W3, Cp, Co, Cu, Ct, Ch, Cq, Dm, Dl, Dz, Dw, Dy, Dx, Dk, Dc, Cs, Cg, Cn, Dn, Dd, De, Dp, Do, Dr, Ds, Dt, Du, Cv, Cw, Da, Db, Cj, Ci, Cf, Ce, Bz, Ca, Cb, Bw, Bs, Bt, Bv, Bu, Br, Bo, Bp, Bq, Dq, Cd, Bx, By, Cc, Di, Cm, Cl, Ck, Df, Dg, Dh, hge]) ?_
      have hl1 : (if a.getD m 0 = 0 then [] else [a.getD m 0] : List Int).length ≤ LIM := by split <;> exact (show _ ≤ LIM from by first | exact Nat.zero_le _ | exact (show 1 ≤ LIM by decide))
      have h5' := h5 p (if a.getD m 0 = 0 then [] else [a.getD m 0]) (Nat.le_of_not_lt hlp) hl1
      simp only [b9d0]
      rw [Ag (σ' := [some (false, .ilist a), some (false, .ilist b), some (false, .ilist out), some (false, .int (m : Int)), some (false, .int (a.getD m 0)), tv]) (by simp only [J0, J1, J2, J3, J4, J5, J6, J7, J8, J9, K0, K1, K2, K3, K4, K5, K6, K7, K8, K9, Q0, Q1, Q2, Q3, Q4, Q5, Q6, Q7, Q8, Q9, U0, U1, U2, U3, U4, U5, U6, U7, U8, U9, V0, V1, V2, V3, V4, V5, V6, V7, V8, V9, W0, W1, W2, W3, Cp, Co, Cu, Ct, Ch, Cq, Dm, Dl, Dz, Dw, Dy, Dx, Dk, Dc, Cs, Cg, Cn, Dn, Dd, De, Dp, Do, Dr, Ds, Dt, Du, Cv, Cw, Da, Db, Cj, Ci, Cf, Ce, Bz, Ca, Cb, Bw, Bs, Bt, Bv, Bu, Br, Bo, Bp, Bq, Dq, Cd, Bx, By, Cc, Di, Cm, Cl, Ck, Df, Dg, Dh, Az, Bj, getD_some hlt])]
      rw [Ag (σ' := [some (false, .ilist a), some (false, .ilist b), some (false, .ilist out), some (false, .int (m : Int)), some (false, .int (a.getD m 0)), some (false, .ilist [])]) (by simp only [J0, J1, J2, J3, J4, J5, J6, J7, J8, J9, K0, K1, K2, K3, K4, K5, K6, K7, K8, K9, Q0, Q1, Q2, Q3, Q4, Q5, Q6, Q7, Q8, Q9, U0, U1, U2, U3, U4, U5, U6, U7, U8, U9, V0, V1, V2, V3, V4, V5, V6, V7, V8, V9, W0, W1, W2, W3, Cp, Co, Cu, Ct, Ch, Cq, Dm, Dl, Dz, Dw, Dy, Dx, Dk, Dc, Cs, Cg, Cn, Dn, Dd, De, Dp, Do, Dr, Ds, Dt, Du, Cv, Cw, Da, Db, Cj, Ci, Cf, Ce, Bz, Ca, Cb, Bw, Bs, Bt, Bv, Bu, Br, Bo, Bp, Bq, Dq, Cd, Bx, By, Cc, Di, Cm, Cl, Ck, Df, Dg, Dh, List.length_nil, Nat.zero_le, if_true, mkL0])]
      rw [Ag (σ' := [some (false, .ilist a), some (false, .ilist b), some (false, .ilist out), some (false, .int (m : Int)), some (false, .int (a.getD m 0)), some (false, .ilist (if a.getD m 0 = 0 then [] else [a.getD m 0]))]) (by
        by_cases q : a.getD m 0 = 0
        · have hb : (a.getD m 0 == 0) = true := by rw [q]; rfl
          rw [if_pos q]; simp only [J0, J1, J2, J3, J4, J5, J6, J7, J8, J9, K0, K1, K2, K3, K4, K5, K6, K7, K8, K9, Q0, Q1, Q2, Q3, Q4, Q5, Q6, Q7, Q8, Q9, U0, U1, U2, U3, U4, U5, U6, U7, U8, U9, V0, V1, V2, V3, V4, V5, V6, V7, V8, V9, W0, W1, W2, W3, Cp, Co, Cu, Ct, Ch, Cq, Dm, Dl, Dz, Dw, Dy, Dx, Dk, Dc, Cs, Cg, Cn, Dn, Dd, De, Dp, Do, Dr, Ds, Dt, Du, Cv, Cw, Da, Db, Cj, Ci, Cf, Ce, Bz, Ca, Cb, Bw, Bs, Bt, Bv, Bu, Br, Bo, Bp, Bq, Dq, Cd, Bx, By, Cc, Di, Cm, Cl, Ck, Df, Dg, Dh, eq_int, eq_bool, eq_str, Ea, hb, Bool.not_true]
        · have hb : (a.getD m 0 == 0) = false := by simpa using q
          rw [if_neg q]; simp only [J0, J1, J2, J3, J4, J5, J6, J7, J8, J9, K0, K1, K2, K3, K4, K5, K6, K7, K8, K9, Q0, Q1, Q2, Q3, Q4, Q5, Q6, Q7, Q8, Q9, U0, U1, U2, U3, U4, U5, U6, U7, U8, U9, V0, V1, V2, V3, V4, V5, V6, V7, V8, V9, W0, W1, W2, W3, Cp, Co, Cu, Ct, Ch, Cq, Dm, Dl, Dz, Dw, Dy, Dx, Dk, Dc, Cs, Cg, Cn, Dn, Dd, De, Dp, Do, Dr, Ds, Dt, Du, Cv, Cw, Da, Db, Cj, Ci, Cf, Ce, Bz, Ca, Cb, Bw, Bs, Bt, Bv, Bu, Br, Bo, Bp, Bq, Dq, Cd, Bx, By, Cc, Di, Cm, Cl, Ck, Df, Dg, Dh, eq_int, eq_bool, eq_str, Ea, hb, Bool.not_false, List.length_cons, List.length_nil]
          rw [if_pos (by decide)]; rfl)]
      simp only [J0, J1, J2, J3, J4, J5, J6, J7, J8, J9, K0, K1, K2, K3, K4, K5, K6, K7, K8, K9, Q0, Q1, Q2, Q3, Q4, Q5, Q6, Q7, Q8, Q9, U0, U1, U2, U3, U4, U5, U6, U7, U8, U9, V0, V1, V2, V3, V4, V5, V6, V7, V8, V9, W0, W1, W2, W3, Cp, Co, Cu, Ct, Ch, Cq, Dm, Dl, Dz, Dw, Dy, Dx, Dk, Dc, Cs, Cg, Cn, Dn, Dd, De, Dp, Do, Dr, Ds, Dt, Du, Cv, Cw, Da, Db, Cj, Ci, Cf, Ce, Bz, Ca, Cb, Bw, Bs, Bt, Bv, Bu, Br, Bo, Bp, Bq, Dq, Cd, Bx, By, Cc, Di, Cm, Cl, Ck, Df, Dg, Dh, h6 out b p hmul, h5']
theorem run_compose (h5 : ∀ a b, a.length ≤ LIM → b.length ≤ LIM → F 5 [.ilist a, .ilist b] = some (.val (.ilist (addP a b)))) (h6 : ∀ a b r, multiply a b = some r → F 6 [.ilist a, .ilist b] = some (.val (.ilist r))) {a b r : List Int} (h : compose a b = some r) (hN : a.length < N) :
    ∃ σ', Ah G F N b9.body [some (false, .ilist a), some (false, .ilist b), none, none, none, none] = some (.ret (.ilist r), σ') := by
  have h' : compO b (a.take a.length).reverse [] = some r := by rw [List.take_length]; exact h
  obtain ⟨cv', tv', hw⟩ := while_comp (G := G) (N := N) h5 h6 (a := a) (b := b) a.length [] r N none none (Nat.le_refl _) hN h'
  refine ⟨[some (false, .ilist a), some (false, .ilist b), some (false, .ilist r), some (false, .int (-1)), cv', tv'], ?_⟩
  simp only [b9]
  rw [Ag (σ' := [some (false, .ilist a), some (false, .ilist b), some (false, .ilist []), none, none, none]) (by simp only [J0, J1, J2, J3, J4, J5, J6, J7, J8, J9, K0, K1, K2, K3, K4, K5, K6, K7, K8, K9, Q0, Q1, Q2, Q3, Q4, Q5, Q6, Q7, Q8, Q9, U0, U1, U2, U3, U4, U5, U6, U7, U8, U9, V0, V1, V2, V3, V4, V5, V6, V7, V8, V9, W0, W1, W2, W3, Cp, Co, Cu, Ct, Ch, Cq, Dm, Dl, Dz, Dw, Dy, Dx, Dk, Dc, Cs, Cg, Cn, Dn, Dd, De, Dp, Do, Dr, Ds, Dt, Du, Cv, Cw, Da, Db, Cj, Ci, Cf, Ce, Bz, Ca, Cb, Bw, Bs, Bt, Bv, Bu, Br, Bo, Bp, Bq, Dq, Cd, Bx, By, Cc, Di, Cm, Cl, Ck, Df, Dg, Dh, List.length_nil, Nat.zero_le, if_true, mkL0])]
  rw [Ag (σ' := [some (false, .ilist a), some (false, .ilist b), some (false, .ilist []), some (false, .int ((a.length : Int) - 1)), none, none]) rfl]
  rw [Ag (σ' := [some (false, .ilist a), some (false, .ilist b), some (false, .ilist r), some (false, .int (-1)), cv', tv']) (by rw [J9, hw])]
  rfl
end
end Mine
end
section
open PySem
namespace Mine
set_option tactic.hygienic false
set_option autoImplicit false
section
variable {G : Str → Option AV} {F : Nat → List AV → Option Res} {N : Nat}
theorem run_int (g w : Int) : Ah G F N b25.body [some (false, .int g), some (false, .int w)] = some (.ret (.bool (g == w)), [some (false, .int g), some (false, .int w)]) := by
  simp only [b25]
  rw [Ag (σ' := [some (false, .int g), some (false, .int w)]) rfl]
  cases h : (g == w) with
  | true =>
    rw [Ag (σ' := [some (false, .int g), some (false, .int w)]) (by simp only [J0, J1, J2, J3, J4, J5, J6, J7, J8, J9, K0, K1, K2, K3, K4, K5, K6, K7, K8, K9, Q0, Q1, Q2, Q3, Q4, Q5, Q6, Q7, Q8, Q9, U0, U1, U2, U3, U4, U5, U6, U7, U8, U9, V0, V1, V2, V3, V4, V5, V6, V7, V8, V9, W0, W1, W2, W3, Cp, Co, Cu, Ct, Ch, Cq, Dm, Dl, Dz, Dw, Dy, Dx, Dk, Dc, Cs, Cg, Cn, Dn, Dd, De, Dp, Do, Dr, Ds, Dt, Du, Cv, Cw, Da, Db, Cj, Ci, Cf, Ce, Bz, Ca, Cb, Bw, Bs, Bt, Bv, Bu, Br, Bo, Bp, Bq, Dq, Cd, Bx, By, Cc, Di, Cm, Cl, Ck, Df, Dg, Dh, eq_int, eq_bool, eq_str, Ea, h, Bool.not_true])]
    rfl
  | false => exact Ho (by simp only [J0, J1, J2, J3, J4, J5, J6, J7, J8, J9, K0, K1, K2, K3, K4, K5, K6, K7, K8, K9, Q0, Q1, Q2, Q3, Q4, Q5, Q6, Q7, Q8, Q9, U0, U1, U2, U3, U4, U5, U6, U7, U8, U9, V0, V1, V2, V3, V4, V5, V6, V7, V8, V9, W0, W1, W2, W3, Cp, Co, Cu, Ct, Ch, Cq, Dm, Dl, Dz, Dw, Dy, Dx, Dk, Dc, Cs, Cg, Cn, Dn, Dd, De, Dp, Do, Dr, Ds, Dt, Du, Cv, Cw, Da, Db, Cj, Ci, Cf, Ce, Bz, Ca, Cb, Bw, Bs, Bt, Bv, Bu, Br, Bo, Bp, Bq, Dq, Cd, Bx, By, Cc, Di, Cm, Cl, Ck, Df, Dg, Dh, eq_int, eq_bool, eq_str, Ea, h, Bool.not_false])
theorem for_same {A B : Option (Bool × AV)} : ∀ (l : List Int) (cv : Option (Bool × AV)), ∃ cv', Ee [2] (Ah G F N b24d0) (l.map AV.int) [A, B, cv] = some (.next, [A, B, cv'])
  | [], cv => ⟨cv, rfl⟩
  | x :: r, cv => by
    obtain ⟨cv', ih⟩ := for_same (A := A) (B := B) r (some (false, .int x))
    exact ⟨cv', by rw [List.map_cons, ← ih]; exact Fq rfl⟩
theorem run_same (g w : List Int) : ∃ σ', Ah G F N b24.body [some (false, .ilist g), some (false, .ilist w), none] = some (.ret (.bool (g == w)), σ') := by
  simp only [b24]
  cases h : (g == w) with
  | true =>
    obtain ⟨cv', hf⟩ := for_same (G := G) (F := F) (N := N) (A := some (false, .ilist g)) (B := some (false, .ilist w)) g none
    refine ⟨[some (false, .ilist g), some (false, .ilist w), cv'], ?_⟩
    rw [Ag (σ' := [some (false, .ilist g), some (false, .ilist w), none]) rfl]
    rw [Ag (σ' := [some (false, .ilist g), some (false, .ilist w), none]) (by simp only [J0, J1, J2, J3, J4, J5, J6, J7, J8, J9, K0, K1, K2, K3, K4, K5, K6, K7, K8, K9, Q0, Q1, Q2, Q3, Q4, Q5, Q6, Q7, Q8, Q9, U0, U1, U2, U3, U4, U5, U6, U7, U8, U9, V0, V1, V2, V3, V4, V5, V6, V7, V8, V9, W0, W1, W2, W3, Cp, Co, Cu, Ct, Ch, Cq, Dm, Dl, Dz, Dw, Dy, Dx, Dk, Dc, Cs, Cg, Cn, Dn, Dd, De, Dp, Do, Dr, Ds, Dt, Du, Cv, Cw, Da, Db, Cj, Ci, Cf, Ce, Bz, Ca, Cb, Bw, Bs, Bt, Bv, Bu, Br, Bo, Bp, Bq, Dq, Cd, Bx, By, Cc, Di, Cm, Cl, Ck, Df, Dg, Dh, eq_int, eq_bool, eq_str, Ea, h, Bool.not_true])]
    rw [Ag (σ' := [some (false, .ilist g), some (false, .ilist w), cv']) (by simp only [K0, Q0, V7, V8, Bl, hf])]
    rfl
  | false =>
    refine ⟨[some (false, .ilist g), some (false, .ilist w), none], ?_⟩
    rw [Ag (σ' := [some (false, .ilist g), some (false, .ilist w), none]) rfl]
    exact Ho (by simp only [J0, J1, J2, J3, J4, J5, J6, J7, J8, J9, K0, K1, K2, K3, K4, K5, K6, K7, K8, K9, Q0, Q1, Q2, Q3, Q4, Q5, Q6, Q7, Q8, Q9, U0, U1, U2, U3, U4, U5, U6, U7, U8, U9, V0, V1, V2, V3, V4, V5, V6, V7, V8, V9, W0, W1, W2, W3, Cp, Co, Cu, Ct, Ch, Cq, Dm, Dl, Dz, Dw, Dy, Dx, Dk, Dc, Cs, Cg, Cn, Dn, Dd, De, Dp, Do, Dr, Ds, Dt, Du, Cv, Cw, Da, Db, Cj, Ci, Cf, Ce, Bz, Ca, Cb, Bw, Bs, Bt, Bv, Bu, Br, Bo, Bp, Bq, Dq, Cd, Bx, By, Cc, Di, Cm, Cl, Ck, Df, Dg, Dh, eq_int, eq_bool, eq_str, Ea, h, Bool.not_false])
noncomputable def bagL (m : Int) (ps : List Int) : List Int := if m = 0 then [99, 99, 99, 99, 99] else [(0 : Int), 1, 2, 3, 4].map fun t => ((ps.count t : Nat) : Int)
theorem run_bag (m : Int) (ps : List Int) : Ah G F N b19.body [some (false, .int m), some (false, .plist ps)] = some (.ret (.ilist (bagL m ps)), [some (false, .int m), some (false, .plist ps)]) := by
  simp only [b19]
  unfold bagL
  by_cases h : m = 0
  · have hb : (m == 0) = true := by rw [h]; rfl
    rw [if_pos h]
    refine Ho ?_
    simp only [J8, K6, Q8, Q1, K9, V6, V8, Dp, Do, Dr, Ds, Dt, Du, Cv, Cw, Da, Db, Cj, Ci, Cf, Ce, Bz, Ca, Cb, Bw, Bs, Bt, Bv, Bu, Br, Bo, Bp, Bq, Dq, eq_int, eq_bool, eq_str, Ea, hb, W2, W3, Cp, Co, Cu, Ct, Ch, Cq]
    rfl
  · have hb : (m == 0) = false := by simpa using h
    rw [if_neg h]
    rw [Ag (σ' := [some (false, .int m), some (false, .plist ps)]) (by simp only [J0, J1, J2, J3, J4, J5, J6, J7, J8, J9, K0, K1, K2, K3, K4, K5, K6, K7, K8, K9, Q0, Q1, Q2, Q3, Q4, Q5, Q6, Q7, Q8, Q9, U0, U1, U2, U3, U4, U5, U6, U7, U8, U9, V0, V1, V2, V3, V4, V5, V6, V7, V8, V9, W0, W1, W2, W3, Cp, Co, Cu, Ct, Ch, Cq, Dm, Dl, Dz, Dw, Dy, Dx, Dk, Dc, Cs, Cg, Cn, Dn, Dd, De, Dp, Do, Dr, Ds, Dt, Du, Cv, Cw, Da, Db, Cj, Ci, Cf, Ce, Bz, Ca, Cb, Bw, Bs, Bt, Bv, Bu, Br, Bo, Bp, Bq, Dq, Cd, Bx, By, Cc, Di, Cm, Cl, Ck, Df, Dg, Dh, eq_int, eq_bool, eq_str, Ea, hb])]
    rw [J1, K1]
    have he : Ae G F (.comp (.count (.rd 1) (.rd 2)) 1 (.range (.lit (.int 0)) (.lit (.int 5)) (.lit (.int 1))) (.lit (.bool true))) [some (false, .int m), some (false, .plist ps)] = some (.ilist ([(0 : Int), 1, 2, 3, 4].map fun t => ((ps.count t : Nat) : Int))) := by
      have hr : Ae G F (.range (.lit (.int 0)) (.lit (.int 5)) (.lit (.int 1))) [some (false, .int m), some (false, .plist ps)] = some (.ilist [0, 1, 2, 3, 4]) := by
        rw [V0, K9, K9, K9]
        exact if_pos ⟨.inl rfl, by decide, by decide, by decide, by decide⟩
      rw [U9, hr]
      simp only [Bl]
      rw [if_pos (show (List.map AV.int [0, 1, 2, 3, 4]).length ≤ LIM from (by decide : 5 ≤ LIM)), Gj (g := fun t => ((ps.count t : Nat) : Int)) (fun c _ => rfl), W2, Fg]
    rw [he]
noncomputable def comDs (k m : Int) : List Int := [(1 : Int), 2, 3, 4, 5, 6].filter fun d => (k.fmod d == 0) && (m.fmod d == 0)
noncomputable def Hi (k m : Int) : Int := if m = 0 then (k.natAbs : Int) else match comDs k m with
  | x :: r => r.foldl max x
  | [] => 0
theorem run_common (k m : Int) : ∃ σ', Ah G F N b21.body [some (false, .int k), some (false, .int m)] = some (.ret (.int (Hi k m)), σ') := by
  refine ⟨[some (false, .int k), some (false, .int m)], ?_⟩
  simp only [b21]
  unfold Hi
  by_cases h : m = 0
  · have hb : (m == 0) = true := by rw [h]; rfl
    rw [if_pos h]
    exact Ho (by simp only [J0, J1, J2, J3, J4, J5, J6, J7, J8, J9, K0, K1, K2, K3, K4, K5, K6, K7, K8, K9, Q0, Q1, Q2, Q3, Q4, Q5, Q6, Q7, Q8, Q9, U0, U1, U2, U3, U4, U5, U6, U7, U8, U9, V0, V1, V2, V3, V4, V5, V6, V7, V8, V9, W0, W1, W2, W3, Cp, Co, Cu, Ct, Ch, Cq, Dm, Dl, Dz, Dw, Dy, Dx, Dk, Dc, Cs, Cg, Cn, Dn, Dd, De, Dp, Do, Dr, Ds, Dt, Du, Cv, Cw, Da, Db, Cj, Ci, Cf, Ce, Bz, Ca, Cb, Bw, Bs, Bt, Bv, Bu, Br, Bo, Bp, Bq, Dq, Cd, Bx, By, Cc, Di, Cm, Cl, Ck, Df, Dg, Dh, eq_int, eq_bool, eq_str, Ea, hb])
  · have hb : (m == 0) = false := by simpa using h
    rw [if_neg h]
    rw [Ag (σ' := [some (false, .int k), some (false, .int m)]) (by simp only [J0, J1, J2, J3, J4, J5, J6, J7, J8, J9, K0, K1, K2, K3, K4, K5, K6, K7, K8, K9, Q0, Q1, Q2, Q3, Q4, Q5, Q6, Q7, Q8, Q9, U0, U1, U2, U3, U4, U5, U6, U7, U8, U9, V0, V1, V2, V3, V4, V5, V6, V7, V8, V9, W0, W1, W2, W3, Cp, Co, Cu, Ct, Ch, Cq, Dm, Dl, Dz, Dw, Dy, Dx, Dk, Dc, Cs, Cg, Cn, Dn, Dd, De, Dp, Do, Dr, Ds, Dt, Du, Cv, Cw, Da, Db, Cj, Ci, Cf, Ce, Bz, Ca, Cb, Bw, Bs, Bt, Bv, Bu, Br, Bo, Bp, Bq, Dq, Cd, Bx, By, Cc, Di, Cm, Cl, Ck, Df, Dg, Dh, eq_int, eq_bool, eq_str, Ea, hb])]
    rw [J1, K1]
    have hr : Ae G F (.range (.lit (.int 1)) (.lit (.int 7)) (.lit (.int 1))) [some (false, .int k), some (false, .int m)] = some (.ilist [1, 2, 3, 4, 5, 6]) := by
      simp only [V0, K9]
      exact if_pos ⟨.inl trivial, by decide, by decide, by decide, by decide⟩
    have hp : ∀ d ∈ [(1 : Int), 2, 3, 4, 5, 6], ¬ d = 0 := by decide
    have hc : Ae G F (.comp (.var 2) 1 (.range (.lit (.int 1)) (.lit (.int 7)) (.lit (.int 1))) (.and (.cmp .eq (.bin .mod (.rd 0) (.rd 2)) (.lit (.int 0))) (.cmp .eq (.bin .mod (.rd 1) (.rd 2)) (.lit (.int 0))))) [some (false, .int k), some (false, .int m)] = some (.ilist (comDs k m)) := by
      rw [U9, hr]
      simp only [Bl]
      rw [if_pos (show (List.map AV.int [1, 2, 3, 4, 5, 6]).length ≤ LIM from (by decide : 6 ≤ LIM)),
        Jr (fun v => match v with | .int d => (k.fmod d == 0) && (m.fmod d == 0) | _ => false) (fun v => v)]
      · rw [W2, List.map_id', List.filter_map, Fg]; rfl
      · intro y hy
        obtain ⟨d, hd, rfl⟩ := List.mem_map.mp hy
        have h0 := hp d hd
        cases h1 : (k.fmod d == 0) with
        | true => simp only [List.cons_append, List.nil_append, J0, J1, J2, J3, J4, J5, J6, J7, J8, J9, K0, K1, K2, K3, K4, K5, K6, K7, K8, K9, Q0, Q1, Q2, Q3, Q4, Q5, Q6, Q7, Q8, Q9, U0, U1, U2, U3, U4, U5, U6, U7, U8, U9, V0, V1, V2, V3, V4, V5, V6, V7, V8, V9, W0, W1, W2, W3, Cp, Co, Cu, Ct, Ch, Cq, Dm, Dl, Dz, Dw, Dy, Dx, Dk, Dc, Cs, Cg, Cn, Dn, Dd, De, Dp, Do, Dr, Ds, Dt, Du, Cv, Cw, Da, Db, Cj, Ci, Cf, Ce, Bz, Ca, Cb, Bw, Bs, Bt, Bv, Bu, Br, Bo, Bp, Bq, Dq, Cd, Bx, By, Cc, Di, Cm, Cl, Ck, Df, Dg, Dh, eq_int, eq_bool, eq_str, Ea, h0, if_false, h1, Bool.true_and]
        | false => simp only [List.cons_append, List.nil_append, J0, J1, J2, J3, J4, J5, J6, J7, J8, J9, K0, K1, K2, K3, K4, K5, K6, K7, K8, K9, Q0, Q1, Q2, Q3, Q4, Q5, Q6, Q7, Q8, Q9, U0, U1, U2, U3, U4, U5, U6, U7, U8, U9, V0, V1, V2, V3, V4, V5, V6, V7, V8, V9, W0, W1, W2, W3, Cp, Co, Cu, Ct, Ch, Cq, Dm, Dl, Dz, Dw, Dy, Dx, Dk, Dc, Cs, Cg, Cn, Dn, Dd, De, Dp, Do, Dr, Ds, Dt, Du, Cv, Cw, Da, Db, Cj, Ci, Cf, Ce, Bz, Ca, Cb, Bw, Bs, Bt, Bv, Bu, Br, Bo, Bp, Bq, Dq, Cd, Bx, By, Cc, Di, Cm, Cl, Ck, Df, Dg, Dh, eq_int, eq_bool, eq_str, Ea, h0, if_false, h1, Bool.false_and]
      · intro y hy _
        obtain ⟨d, hd, rfl⟩ := List.mem_map.mp hy
        rfl
    rw [U2, hc]
    have h1 : comDs k m = 1 :: [(2 : Int), 3, 4, 5, 6].filter fun d => (k.fmod d == 0) && (m.fmod d == 0) := by
      unfold comDs
      rw [List.filter_cons, if_pos (by rw [Int.fmod_one, Int.fmod_one]; rfl)]
    rw [h1]; rfl
noncomputable def Hy : List Int → List Int → Bool
  | x :: r, y :: t => !decide (x < y) && Hy r t
  | _, _ => true
noncomputable def Gs (m : Int) (fs : List Int) (k : Int) (es : List Int) : Bool := if m = 0 then false else if k.fmod m = 0 then Hy es fs else false
theorem zip_items (es fs : List Int) : zipop (.ilist es) (.ilist fs) = some (.list (zipL (es.map .int) (fs.map .int))) := rfl
theorem for_div {A B C D : Option (Bool × AV)} : ∀ (es fs : List Int) (xv yv : Option (Bool × AV)), ∃ o xv' yv', Ee [4, 5] (Ah G F N Js) (zipL (es.map .int) (fs.map .int)) [A, B, C, D, xv, yv] = some (o, [A, B, C, D, xv', yv']) ∧ o = (if Hy es fs then .next else .ret (.bool false))
  | [], fs, xv, yv => ⟨_, xv, yv, rfl, rfl⟩
  | x :: r, [], xv, yv => ⟨_, xv, yv, rfl, rfl⟩
  | x :: r, y :: t, xv, yv => by
    cases h : decide (x < y) with
    | true =>
      refine ⟨.ret (.bool false), some (false, .int x), some (false, .int y), ?_, by simp only [Hy, h]; rfl⟩
      have hb : Ah G F N Js [A, B, C, D, some (false, .int x), some (false, .int y)] = some (.ret (.bool false), [A, B, C, D, some (false, .int x), some (false, .int y)]) := by simp only [Js, J0, J1, J2, J3, J4, J5, J6, J7, J8, J9, K0, K1, K2, K3, K4, K5, K6, K7, K8, K9, Q0, Q1, Q2, Q3, Q4, Q5, Q6, Q7, Q8, Q9, U0, U1, U2, U3, U4, U5, U6, U7, U8, U9, V0, V1, V2, V3, V4, V5, V6, V7, V8, V9, W0, W1, W2, W3, Cp, Co, Cu, Ct, Ch, Cq, Dm, Dl, Dz, Dw, Dy, Dx, Dk, Dc, Cs, Cg, Cn, Dn, Dd, De, Dp, Do, Dr, Ds, Dt, Du, Cv, Cw, Da, Db, Cj, Ci, Cf, Ce, Bz, Ca, Cb, Bw, Bs, Bt, Bv, Bu, Br, Bo, Bp, Bq, Dq, Cd, Bx, By, Cc, Di, Cm, Cl, Ck, Df, Dg, Dh, h]
      have e : Ee [4, 5] (Ah G F N Js) (zipL ((x :: r).map .int) ((y :: t).map .int)) [A, B, C, D, xv, yv] = (match Ah G F N Js [A, B, C, D, some (false, .int x), some (false, .int y)] with
        | none => none
        | some (.next, σ') => Ee [4, 5] (Ah G F N Js) (zipL (r.map .int) (t.map .int)) σ'
        | some (.cont, σ') => Ee [4, 5] (Ah G F N Js) (zipL (r.map .int) (t.map .int)) σ'
        | some (.brk, σ') => some (.next, σ')
        | some (o, σ') => some (o, σ')) := rfl
      rw [e, hb]
    | false =>
      obtain ⟨o, xv', yv', ih, ho⟩ := for_div (A := A) (B := B) (C := C) (D := D) r t (some (false, .int x)) (some (false, .int y))
      refine ⟨o, xv', yv', ?_, by rw [ho]; simp only [Hy, h]; rfl⟩
      rw [← ih]
      exact f_next2 (by simp only [Js, J0, J1, J2, J3, J4, J5, J6, J7, J8, J9, K0, K1, K2, K3, K4, K5, K6, K7, K8, K9, Q0, Q1, Q2, Q3, Q4, Q5, Q6, Q7, Q8, Q9, U0, U1, U2, U3, U4, U5, U6, U7, U8, U9, V0, V1, V2, V3, V4, V5, V6, V7, V8, V9, W0, W1, W2, W3, Cp, Co, Cu, Ct, Ch, Cq, Dm, Dl, Dz, Dw, Dy, Dx, Dk, Dc, Cs, Cg, Cn, Dn, Dd, De, Dp, Do, Dr, Ds, Dt, Du, Cv, Cw, Da, Db, Cj, Ci, Cf, Ce, Bz, Ca, Cb, Bw, Bs, Bt, Bv, Bu, Br, Bo, Bp, Bq, Dq, Cd, Bx, By, Cc, Di, Cm, Cl, Ck, Df, Dg, Dh, h])
theorem run_divides (m : Int) (fs : List Int) (k : Int) (es : List Int) : ∃ σ', Ah G F N b20.body [some (false, .int m), some (false, .ilist fs), some (false, .int k), some (false, .ilist es), none, none] = some (.ret (.bool (Gs m fs k es)), σ') := by
  simp only [b20]
  unfold Gs
  by_cases h : m = 0
  · have hb : (m == 0) = true := by rw [h]; rfl
    rw [if_pos h]
    exact ⟨[some (false, .int m), some (false, .ilist fs), some (false, .int k), some (false, .ilist es), none, none], Ho (by simp only [J0, J1, J2, J3, J4, J5, J6, J7, J8, J9, K0, K1, K2, K3, K4, K5, K6, K7, K8, K9, Q0, Q1, Q2, Q3, Q4, Q5, Q6, Q7, Q8, Q9, U0, U1, U2, U3, U4, U5, U6, U7, U8, U9, V0, V1, V2, V3, V4, V5, V6, V7, V8, V9, W0, W1, W2, W3, Cp, Co, Cu, Ct, Ch, Cq, Dm, Dl, Dz, Dw, Dy, Dx, Dk, Dc, Cs, Cg, Cn, Dn, Dd, De, Dp, Do, Dr, Ds, Dt, Du, Cv, Cw, Da, Db, Cj, Ci, Cf, Ce, Bz, Ca, Cb, Bw, Bs, Bt, Bv, Bu, Br, Bo, Bp, Bq, Dq, Cd, Bx, By, Cc, Di, Cm, Cl, Ck, Df, Dg, Dh, eq_int, eq_bool, eq_str, Ea, hb])⟩
  · have hb : (m == 0) = false := by simpa using h
    rw [if_neg h]
    by_cases h2 : k.fmod m = 0
    · have hb2 : (k.fmod m == 0) = true := by rw [h2]; rfl
      rw [if_pos h2]
      obtain ⟨o, xv', yv', hf, ho⟩ := for_div (G := G) (F := F) (N := N) (A := some (false, .int m)) (B := some (false, .ilist fs)) (C := some (false, .int k)) (D := some (false, .ilist es)) es fs none none
      have hfor : Ah G F N (.for [4, 5] (.zip (.var 3) (.var 1)) Js) [some (false, .int m), some (false, .ilist fs), some (false, .int k), some (false, .ilist es), none, none] = some (o, [some (false, .int m), some (false, .ilist fs), some (false, .int k), some (false, .ilist es), xv', yv']) := by
        rw [K0, V4, Q0, Q0, V7, V7]
        simp only [V8, V9, zip_items]
        exact hf
      refine ⟨[some (false, .int m), some (false, .ilist fs), some (false, .int k), some (false, .ilist es), xv', yv'], ?_⟩
      rw [Ag (σ' := [some (false, .int m), some (false, .ilist fs), some (false, .int k), some (false, .ilist es), none, none]) (by simp only [J0, J1, J2, J3, J4, J5, J6, J7, J8, J9, K0, K1, K2, K3, K4, K5, K6, K7, K8, K9, Q0, Q1, Q2, Q3, Q4, Q5, Q6, Q7, Q8, Q9, U0, U1, U2, U3, U4, U5, U6, U7, U8, U9, V0, V1, V2, V3, V4, V5, V6, V7, V8, V9, W0, W1, W2, W3, Cp, Co, Cu, Ct, Ch, Cq, Dm, Dl, Dz, Dw, Dy, Dx, Dk, Dc, Cs, Cg, Cn, Dn, Dd, De, Dp, Do, Dr, Ds, Dt, Du, Cv, Cw, Da, Db, Cj, Ci, Cf, Ce, Bz, Ca, Cb, Bw, Bs, Bt, Bv, Bu, Br, Bo, Bp, Bq, Dq, Cd, Bx, By, Cc, Di, Cm, Cl, Ck, Df, Dg, Dh, eq_int, eq_bool, eq_str, Ea, hb])]
      rw [Ag (σ' := [some (false, .int m), some (false, .ilist fs), some (false, .int k), some (false, .ilist es), none, none]) (by simp only [J0, J1, J2, J3, J4, J5, J6, J7, J8, J9, K0, K1, K2, K3, K4, K5, K6, K7, K8, K9, Q0, Q1, Q2, Q3, Q4, Q5, Q6, Q7, Q8, Q9, U0, U1, U2, U3, U4, U5, U6, U7, U8, U9, V0, V1, V2, V3, V4, V5, V6, V7, V8, V9, W0, W1, W2, W3, Cp, Co, Cu, Ct, Ch, Cq, Dm, Dl, Dz, Dw, Dy, Dx, Dk, Dc, Cs, Cg, Cn, Dn, Dd, De, Dp, Do, Dr, Ds, Dt, Du, Cv, Cw, Da, Db, Cj, Ci, Cf, Ce, Bz, Ca, Cb, Bw, Bs, Bt, Bv, Bu, Br, Bo, Bp, Bq, Dq, Cd, Bx, By, Cc, Di, Cm, Cl, Ck, Df, Dg, Dh, eq_int, eq_bool, eq_str, Ea, h, if_false, hb2, Bool.not_true])]
      cases hg : Hy es fs with
      | true =>
        rw [hg, if_pos rfl] at ho
        rw [Ag (by rw [hfor, ho])]; rfl
      | false =>
        rw [hg, if_neg Bool.false_ne_true] at ho
        exact Ho (by rw [hfor, ho])
    · have hb2 : (k.fmod m == 0) = false := by simpa using h2
      rw [if_neg h2]
      refine ⟨[some (false, .int m), some (false, .ilist fs), some (false, .int k), some (false, .ilist es), none, none], ?_⟩
      rw [Ag (σ' := [some (false, .int m), some (false, .ilist fs), some (false, .int k), some (false, .ilist es), none, none]) (by simp only [J0, J1, J2, J3, J4, J5, J6, J7, J8, J9, K0, K1, K2, K3, K4, K5, K6, K7, K8, K9, Q0, Q1, Q2, Q3, Q4, Q5, Q6, Q7, Q8, Q9, U0, U1, U2, U3, U4, U5, U6, U7, U8, U9, V0, V1, V2, V3, V4, V5, V6, V7, V8, V9, W0, W1, W2, W3, Cp, Co, Cu, Ct, Ch, Cq, Dm, Dl, Dz, Dw, Dy, Dx, Dk, Dc, Cs, Cg, Cn, Dn, Dd, De, Dp, Do, Dr, Ds, Dt, Du, Cv, Cw, Da, Db, Cj, Ci, Cf, Ce, Bz, Ca, Cb, Bw, Bs, Bt, Bv, Bu, Br, Bo, Bp, Bq, Dq, Cd, Bx, By, Cc, Di, Cm, Cl, Ck, Df, Dg, Dh, eq_int, eq_bool, eq_str, Ea, hb])]
      exact Ho (by simp only [J0, J1, J2, J3, J4, J5, J6, J7, J8, J9, K0, K1, K2, K3, K4, K5, K6, K7, K8, K9, Q0, Q1, Q2, Q3, Q4, Q5, Q6, Q7, Q8, Q9, U0, U1, U2, U3, U4, U5, U6, U7, U8, U9, V0, V1, V2, V3, V4, V5, V6, V7, V8, V9, W0, W1, W2, W3, Cp, Co, Cu, Ct, Ch, Cq, Dm, Dl, Dz, Dw, Dy, Dx, Dk, Dc, Cs, Cg, Cn, Dn, Dd, De, Dp, Do, Dr, Ds, Dt, Du, Cv, Cw, Da, Db, Cj, Ci, Cf, Ce, Bz, Ca, Cb, Bw, Bs, Bt, Bv, Bu, Br, Bo, Bp, Bq, Dq, Cd, Bx, By, Cc, Di, Cm, Cl, Ck, Df, Dg, Dh, eq_int, eq_bool, eq_str, Ea, h, if_false, hb2, Bool.not_false])
end
end Mine
end
section
open PySem
namespace Mine
set_option tactic.hygienic false
set_option autoImplicit false
noncomputable def ATOMS : List (Int × Int × Int) := [(0, 1, 0), (-1, 1, 0), (1, 2, 0), (-2, 0, 1), (1, 1, 1)]
noncomputable def encA (c : Int × Int × Int) : AV := .tup [.int c.1, .int c.2.1, .int c.2.2]
noncomputable def atV (c : Int × Int × Int) (x : Int) : Int := c.1 + c.2.1 * x + c.2.2 * x * x
structure AtOk (c : Int × Int × Int) (x e out : Int) : Prop where
  m1 : Be c.2.1 x = true
  m2 : Be c.2.2 x = true
  m3 : Be (c.2.2 * x) x = true
  p : 0 ≤ e ∧ (Builtin.Int.intBits (atV c x) : Int) * e ≤ 2 ^ 27
  m4 : Be out (atV c x ^ e.toNat) = true
inductive AtR (x : Int) : List (Int × Int × Int) → List Int → Int → Int → Prop where
  | nil {es : List Int} {out : Int} : AtR x [] es out out
  | nil' {cs : List (Int × Int × Int)} {out : Int} : AtR x cs [] out out
  | cons {c : Int × Int × Int} {e : Int} {cs : List (Int × Int × Int)} {es : List Int} {out v : Int} (h : AtOk c x e out) (t : AtR x cs es (out * atV c x ^ e.toNat) v) : AtR x (c :: cs) (e :: es) out v
theorem idx0 {a b c : AV} : Az (.tup [a, b, c]) (.int 0) = some a := rfl
theorem idx1 {a b c : AV} : Az (.tup [a, b, c]) (.int 1) = some b := rfl
theorem idx2 {a b c : AV} : Az (.tup [a, b, c]) (.int 2) = some c := rfl
noncomputable def BASE : Int := 100000000000000000000
noncomputable def HALF : Int := 50000000000000000000
structure Gu (G : Str → Option AV) : Prop where
  atoms : G (Str.ofString "_law_atoms") = some (.tup (ATOMS.map encA))
  base : G (Str.ofString "_law_base") = some (.int BASE)
  half : G (Str.ofString "_law_half") = some (.int HALF)
  ceil : G (Str.ofString "_law_ceilings") = some (.tup [.tup [.int 0], .tup [.int 1], .tup [.int 0], .tup [.int (-1), .int 2], .tup []])
  scales : G (Str.ofString "_law_scales") = some (.tup [.int 1, .int (-1), .int 2, .int (-2), .int 3, .int (-6), .int 0, .int 1])
  inner : G (Str.ofString "_law_inner") = some (.tup [.ilist [], .ilist [1], .ilist [-1, 1], .ilist [1, -2], .ilist [0, 1, 1]])
section
variable {G : Str → Option AV} {F : Nat → List AV → Option Res} {N : Nat}
theorem for_at {A : Option (Bool × AV)} {x v : Int} : ∀ {cs : List (Int × Int × Int)} {es : List Int} {out : Int}, AtR x cs es out v → ∀ (cv ev : Option (Bool × AV)), ∃ cv' ev',
    Ee [3, 4] (Ah G F N b17d0) (zipL (cs.map encA) (es.map .int)) [A, some (false, .int x), some (false, .int out), cv, ev] = some (.next, [A, some (false, .int x), some (false, .int v), cv', ev'])
  | _, _, _, .nil, cv, ev => ⟨cv, ev, rfl⟩
  | [], _, _, .nil', cv, ev => ⟨cv, ev, rfl⟩
  | _ :: _, _, _, .nil', cv, ev => ⟨cv, ev, rfl⟩
  | c :: cs, e :: es, out, .cons h t, cv, ev => by
    obtain ⟨cv', ev', ih⟩ := for_at (A := A) t (some (false, encA c)) (some (false, .int e))
    refine ⟨cv', ev', ?_⟩
    rw [← ih]
    have p := h.p
    have m4 := h.m4
    unfold atV at p m4
    refine f_next2 ?_
    unfold encA
    simp only [b17d0, J0, J1, J2, J3, J4, J5, J6, J7, J8, J9, K0, K1, K2, K3, K4, K5, K6, K7, K8, K9, Q0, Q1, Q2, Q3, Q4, Q5, Q6, Q7, Q8, Q9, U0, U1, U2, U3, U4, U5, U6, U7, U8, U9, V0, V1, V2, V3, V4, V5, V6, V7, V8, V9, W0, W1, W2, W3, Cp, Co, Cu, Ct, Ch, Cq, Dm, Dl, Dz, Dw, Dy, Dx, Dk, Dc, Cs, Cg, Cn, Dn, Dd, De, Dp, Do, Dr, Ds, Dt, Du, Cv, Cw, Da, Db, Cj, Ci, Cf, Ce, Bz, Ca, Cb, Bw, Bs, Bt, Bv, Bu, Br, Bo, Bp, Bq, Dq, Cd, Bx, By, Cc, Di, Cm, Cl, Ck, Df, Dg, Dh, idx0, idx1, idx2, h.m1, h.m2, h.m3, if_true]
    rw [if_pos p]
    simp only [J0, J1, J2, J3, J4, J5, J6, J7, J8, J9, K0, K1, K2, K3, K4, K5, K6, K7, K8, K9, Q0, Q1, Q2, Q3, Q4, Q5, Q6, Q7, Q8, Q9, U0, U1, U2, U3, U4, U5, U6, U7, U8, U9, V0, V1, V2, V3, V4, V5, V6, V7, V8, V9, W0, W1, W2, W3, Cp, Co, Cu, Ct, Ch, Cq, Dm, Dl, Dz, Dw, Dy, Dx, Dk, Dc, Cs, Cg, Cn, Dn, Dd, De, Dp, Do, Dr, Ds, Dt, Du, Cv, Cw, Da, Db, Cj, Ci, Cf, Ce, Bz, Ca, Cb, Bw, Bs, Bt, Bv, Bu, Br, Bo, Bp, Bq, Dq, Cd, Bx, By, Cc, Di, Cm, Cl, Ck, Df, Dg, Dh, m4, if_true]
    rfl
theorem run_at (g : Gu G) {es : List Int} {x v : Int} (h : AtR x ATOMS es 1 v) : ∃ σ', Ah G F N b17.body [some (false, .ilist es), some (false, .int x), none, none, none] = some (.ret (.int v), σ') := by
  obtain ⟨cv', ev', hf⟩ := for_at (G := G) (F := F) (N := N) (A := some (false, .ilist es)) h none none
  refine ⟨[some (false, .ilist es), some (false, .int x), some (false, .int v), cv', ev'], ?_⟩
  simp only [b17]
  rw [Ag (σ' := [some (false, .ilist es), some (false, .int x), some (false, .int 1), none, none]) rfl]
  rw [Ag (σ' := [some (false, .ilist es), some (false, .int x), some (false, .int v), cv', ev']) (by
    have hz : zipop (.tup (ATOMS.map encA)) (.ilist es) = some (.list (zipL (ATOMS.map encA) (es.map .int))) := rfl
    rw [K0, V4, Q2, g.atoms, Q0, V7]
    simp only [V8, hz]
    exact hf)]
  rfl
noncomputable def dig (n : Int) : Int := (n + HALF).fmod BASE - HALF
inductive DigR (k : Int) : Nat → Int → List Int → List Int → Prop where
  | done {f : Nat} {out : List Int} : DigR k (f + 1) 0 out out
  | more {f : Nat} {n : Int} {out r : List Int} (h0 : n ≠ 0) (hm : Be k (dig n) = true) (hl : out.length < LIM) (t : DigR k f ((n - dig n).fdiv BASE) (out ++ [k * dig n]) r) : DigR k (f + 1) n out r
theorem while_dig (g : Gu G) {E X : Option (Bool × AV)} {k : Int} : ∀ {f : Nat} {n : Int} {out r : List Int}, DigR k f n out r → ∀ (w : Nat) (cv : Option (Bool × AV)), f ≤ w → ∃ cv',
    Ej (Bc G F b18c0) (Ah G F N b18d0) w [some (false, .int k), E, X, some (true, .ilist out), some (false, .int n), cv] = some (.next, [some (false, .int k), E, X, some (true, .ilist r), some (false, .int 0), cv'])
  | _, _, out, _, .done, w, cv, hw => by
    obtain ⟨w, rfl⟩ : ∃ w', w = w' + 1 := ⟨w - 1, by lia⟩
    exact ⟨cv, w_brk rfl rfl⟩
  | _, n, out, r, .more (f := f) h0 hm hl t, w, cv, hw => by
    obtain ⟨w, rfl⟩ : ∃ w', w = w' + 1 := ⟨w - 1, by lia⟩
    obtain ⟨cv', ih⟩ := while_dig g (E := E) (X := X) t w (some (false, .int (dig n))) (by exact Nat.le_of_succ_le_succ ‹_›)
    refine ⟨cv', ?_⟩
    rw [← ih]
    have hb : (n == 0) = false := by simpa using h0
    have b0 : ¬ BASE = 0 := by decide
    refine Hp rfl ?_
    simp only [b18d0]
    rw [Ag (σ' := [some (false, .int k), E, X, some (true, .ilist out), some (false, .int n), cv]) (by simp only [J0, J1, J2, J3, J4, J5, J6, J7, J8, J9, K0, K1, K2, K3, K4, K5, K6, K7, K8, K9, Q0, Q1, Q2, Q3, Q4, Q5, Q6, Q7, Q8, Q9, U0, U1, U2, U3, U4, U5, U6, U7, U8, U9, V0, V1, V2, V3, V4, V5, V6, V7, V8, V9, W0, W1, W2, W3, Cp, Co, Cu, Ct, Ch, Cq, Dm, Dl, Dz, Dw, Dy, Dx, Dk, Dc, Cs, Cg, Cn, Dn, Dd, De, Dp, Do, Dr, Ds, Dt, Du, Cv, Cw, Da, Db, Cj, Ci, Cf, Ce, Bz, Ca, Cb, Bw, Bs, Bt, Bv, Bu, Br, Bo, Bp, Bq, Dq, Cd, Bx, By, Cc, Di, Cm, Cl, Ck, Df, Dg, Dh, eq_int, eq_bool, eq_str, Ea, hb])]
    rw [Ag (σ' := [some (false, .int k), E, X, some (true, .ilist out), some (false, .int n), some (false, .int (dig n))]) (by simp only [J0, J1, J2, J3, J4, J5, J6, J7, J8, J9, K0, K1, K2, K3, K4, K5, K6, K7, K8, K9, Q0, Q1, Q2, Q3, Q4, Q5, Q6, Q7, Q8, Q9, U0, U1, U2, U3, U4, U5, U6, U7, U8, U9, V0, V1, V2, V3, V4, V5, V6, V7, V8, V9, W0, W1, W2, W3, Cp, Co, Cu, Ct, Ch, Cq, Dm, Dl, Dz, Dw, Dy, Dx, Dk, Dc, Cs, Cg, Cn, Dn, Dd, De, Dp, Do, Dr, Ds, Dt, Du, Cv, Cw, Da, Db, Cj, Ci, Cf, Ce, Bz, Ca, Cb, Bw, Bs, Bt, Bv, Bu, Br, Bo, Bp, Bq, Dq, Cd, Bx, By, Cc, Di, Cm, Cl, Ck, Df, Dg, Dh, g.base, g.half, b0, if_false]; rfl)]
    rw [Ag (σ' := [some (false, .int k), E, X, some (true, .ilist (out ++ [k * dig n])), some (false, .int n), some (false, .int (dig n))]) (by simp only [J0, J1, J2, J3, J4, J5, J6, J7, J8, J9, K0, K1, K2, K3, K4, K5, K6, K7, K8, K9, Q0, Q1, Q2, Q3, Q4, Q5, Q6, Q7, Q8, Q9, U0, U1, U2, U3, U4, U5, U6, U7, U8, U9, V0, V1, V2, V3, V4, V5, V6, V7, V8, V9, W0, W1, W2, W3, Cp, Co, Cu, Ct, Ch, Cq, Dm, Dl, Dz, Dw, Dy, Dx, Dk, Dc, Cs, Cg, Cn, Dn, Dd, De, Dp, Do, Dr, Ds, Dt, Du, Cv, Cw, Da, Db, Cj, Ci, Cf, Ce, Bz, Ca, Cb, Bw, Bs, Bt, Bv, Bu, Br, Bo, Bp, Bq, Dq, Cd, Bx, By, Cc, Di, Cm, Cl, Ck, Df, Dg, Dh, hm, if_true, Gc, hl])]
    simp only [J0, J1, J2, J3, J4, J5, J6, J7, J8, J9, K0, K1, K2, K3, K4, K5, K6, K7, K8, K9, Q0, Q1, Q2, Q3, Q4, Q5, Q6, Q7, Q8, Q9, U0, U1, U2, U3, U4, U5, U6, U7, U8, U9, V0, V1, V2, V3, V4, V5, V6, V7, V8, V9, W0, W1, W2, W3, Cp, Co, Cu, Ct, Ch, Cq, Dm, Dl, Dz, Dw, Dy, Dx, Dk, Dc, Cs, Cg, Cn, Dn, Dd, De, Dp, Do, Dr, Ds, Dt, Du, Cv, Cw, Da, Db, Cj, Ci, Cf, Ce, Bz, Ca, Cb, Bw, Bs, Bt, Bv, Bu, Br, Bo, Bp, Bq, Dq, Cd, Bx, By, Cc, Di, Cm, Cl, Ck, Df, Dg, Dh, g.base, b0, if_false]
inductive Fb (k : Int) (es : List Int) (x : Int) (f : Nat) (r : List Int) : Prop where
  | zero (h : k = 0) (e : r = [])
  | some (h : k ≠ 0) (n : Int) (a : AtR x ATOMS es 1 n) (d : DigR k f n [] r)
theorem run_poly (g : Gu G) (h17 : ∀ es x v, AtR x ATOMS es 1 v → F 17 [.ilist es, .int x] = some (.val (.int v))) {k x : Int} {es r : List Int} {f : Nat} (h : Fb k es x f r) (hN : f ≤ N) :
    ∃ σ', Ah G F N b18.body [some (false, .int k), some (false, .ilist es), some (false, .int x), none, none, none] = some (.ret (.ilist r), σ') := by
  simp only [b18]
  rcases h with ⟨h, rfl⟩ | ⟨h, n, a, d⟩
  · subst h
    exact ⟨[some (false, .int 0), some (false, .ilist es), some (false, .int x), some (false, .ilist []), none, none], rfl⟩
  · have hb : (k == 0) = false := by simpa using h
    obtain ⟨cv', hw⟩ := while_dig (F := F) (N := N) g (E := some (false, .ilist es)) (X := some (false, .int x)) d N none hN
    refine ⟨[some (false, .int k), some (false, .ilist es), some (false, .int x), some (false, .ilist r), some (false, .int 0), cv'], ?_⟩
    rw [Ag (σ' := [some (false, .int k), some (false, .ilist es), some (false, .int x), some (true, .ilist []), none, none]) rfl]
    rw [Ag (σ' := [some (false, .int k), some (false, .ilist es), some (false, .int x), some (true, .ilist r), some (false, .int 0), cv']) (by
      simp only [J0, J1, J2, J3, J4, J5, J6, J7, J8, J9, K0, K1, K2, K3, K4, K5, K6, K7, K8, K9, Q0, Q1, Q2, Q3, Q4, Q5, Q6, Q7, Q8, Q9, U0, U1, U2, U3, U4, U5, U6, U7, U8, U9, V0, V1, V2, V3, V4, V5, V6, V7, V8, V9, W0, W1, W2, W3, Cp, Co, Cu, Ct, Ch, Cq, Dm, Dl, Dz, Dw, Dy, Dx, Dk, Dc, Cs, Cg, Cn, Dn, Dd, De, Dp, Do, Dr, Ds, Dt, Du, Cv, Cw, Da, Db, Cj, Ci, Cf, Ce, Bz, Ca, Cb, Bw, Bs, Bt, Bv, Bu, Br, Bo, Bp, Bq, Dq, Cd, Bx, By, Cc, Di, Cm, Cl, Ck, Df, Dg, Dh, eq_int, eq_bool, eq_str, Ea, hb, Bool.not_false, h17 _ _ _ a, hw])]
    rfl
end
end Mine
end
section
open PySem
namespace Mine
set_option tactic.hygienic false
set_option autoImplicit false
noncomputable def cnt1 (es : List Int) (h : Int) : List Int := es.map fun e => ((([e] : List Int).count h : Nat) : Int)
theorem okAs_ints (n : Nat) : ∀ es : List Int, okAs n (es.map .int) = true
  | [] => rfl
  | e :: r => by show (okA n (.int e) && okAs n (r.map .int)) = true; rw [okAs_ints n r]; rfl
theorem in_int (h : Int) (es : List Int) : inAV (.int h) (es.map .int) = some (es.any fun e => e == h) := by
  unfold inAV
  rw [okAs_ints, toDs_map, if_pos (show (okA 60 (AV.int h) && true) = true from rfl), List.any_map]
  rfl
section
variable {G : Str → Option AV} {F : Nat → List AV → Option Res} {N : Nat}
theorem for_grp (g : Gu G) {f : Nat} (h18 : ∀ k es x r, Fb k es x f r → F 18 [.int k, .ilist es, .int x] = some (.val (.ilist r))) {es : List Int} (hl : es.length ≤ LIM) {p : Int → List Int} :
    ∀ (hs : List Int) (out : List (List Int × Int)) (hv : Option (Bool × AV)), (∀ h ∈ hs, (es.any fun e => e == h) = true → Fb 1 (cnt1 es h) BASE f (p h)) → out.length + hs.length ≤ LIM → ∃ hv',
    Ee [2] (Ah G F N b22d0) (hs.map .int) [some (false, .ilist es), some (true, Ak out), hv] =
      some (.next, [some (false, .ilist es), some (true, Ak (out ++ (hs.filter fun h => es.any fun e => e == h).map fun h => (p h, h))), hv'])
  | [], out, hv, _, _ => ⟨hv, by simp [f_nil]⟩
  | h :: hs, out, hv, hp, hlen => by
    rw [List.length_cons] at hlen
    cases hin : (es.any fun e => e == h) with
    | false =>
      obtain ⟨hv', ih⟩ := for_grp g h18 hl hs out (some (false, .int h)) (fun z hz => hp z (List.mem_cons_of_mem _ hz)) (by lia)
      refine ⟨hv', ?_⟩
      rw [List.filter_cons, hin, if_neg Bool.false_ne_true, ← ih, List.map_cons]
      refine Fq ?_
      have hc : Ad .isIn (.int h) (.ilist es) = some false := by rw [Bz, in_int, hin]
      simp only [b22d0, J1, J8, K6, Q8, Q1, V6, V8, V9, W0, W1, hc, W2, W3, Cp, Co, Cu, Ct, Ch, Cq, J0]
    | true =>
      obtain ⟨hv', ih⟩ := for_grp g h18 hl hs (out ++ [(p h, h)]) (some (false, .int h)) (fun z hz => hp z (List.mem_cons_of_mem _ hz)) (by rw [List.length_append]; simp only [List.length_cons, List.length_nil]; exact ZW ‹_›)
      refine ⟨hv', ?_⟩
      have e0 : out ++ ((h :: hs).filter fun h => es.any fun e => e == h).map (fun h => (p h, h)) = (out ++ [(p h, h)]) ++ (hs.filter fun h => es.any fun e => e == h).map (fun h => (p h, h)) := by
        rw [List.filter_cons, hin, if_pos rfl]; simp
      rw [e0, ← ih, List.map_cons]
      refine Fq ?_
      have hc : Ad .isIn (.int h) (.ilist es) = some true := by rw [Bz, in_int, hin]
      have hcomp : Ae G F (.comp (.count (.pl (.cons (.var 3) .nil)) (.rd 2)) 1 (.rd 0) (.lit (.bool true))) [some (false, .ilist es), some (true, Ak out), some (false, .int h)] = some (.ilist (cnt1 es h)) := by
        rw [U9, Q1, V6]
        simp only [V8, Bl]
        rw [if_pos (by rw [List.length_map]; exact hl), Gj (g := fun e => ((([e] : List Int).count h : Nat) : Int)) (fun c _ => rfl), W2, Fg]; rfl
      have hap := append_out out (p h, h) (by exact ZV ‹_›)
      have hlim : ([AV.ilist (p h), AV.int h] : List AV).length ≤ LIM := (by decide : 2 ≤ LIM)
      simp only [b22d0, J1, J8, J7, J0, K6, Q8, U7, K8, K7, U1, K9, Q2, Q0, Q1, V6, V7, V8, V9, W0, W1, hc, W2, W3, Cp, Co, Cu, Ct, Ch, Cq, hcomp, g.base, h18 _ _ _ _ (hp h List.mem_cons_self hin), hlim, if_true, hap]
noncomputable def Ek (es : List Int) (p : Int → List Int) : List (List Int × Int) := ([(1 : Int), 2, 3, 4, 5, 6, 7, 8, 9].filter fun h => es.any fun e => e == h).map fun h => (p h, h)
theorem run_groups (g : Gu G) {f : Nat} (h18 : ∀ k es x r, Fb k es x f r → F 18 [.int k, .ilist es, .int x] = some (.val (.ilist r))) {es : List Int} (hl : es.length ≤ LIM) {p : Int → List Int} (hp : ∀ h ∈ [(1 : Int), 2, 3, 4, 5, 6, 7, 8, 9], (es.any fun e => e == h) = true → Fb 1 (cnt1 es h) BASE f (p h)) :
    ∃ σ', Ah G F N b22.body [some (false, .ilist es), none, none] = some (.ret (Ak (Ek es p)), σ') := by
  obtain ⟨hv', hf⟩ := for_grp (N := N) g h18 hl [(1 : Int), 2, 3, 4, 5, 6, 7, 8, 9] [] none hp (by decide)
  refine ⟨[some (false, .ilist es), some (false, Ak (Ek es p)), hv'], ?_⟩
  simp only [b22]
  rw [Ag (σ' := [some (false, .ilist es), some (true, Ak []), none]) rfl]
  rw [Ag (σ' := [some (false, .ilist es), some (true, Ak (Ek es p)), hv']) (by
    have hr : Ae G F (.range (.lit (.int 1)) (.lit (.int 10)) (.lit (.int 1))) [some (false, .ilist es), some (true, Ak []), none] = some (.ilist [1, 2, 3, 4, 5, 6, 7, 8, 9]) := by
      simp only [V0, K9]
      exact if_pos ⟨.inl trivial, by decide, by decide, by decide, by decide⟩
    rw [K0, hr]
    exact hf)]
  rfl
noncomputable def Io : List (List Int) := [[0], [1], [0], [-1, 2], []]
noncomputable def Im (e low high : Int) : List Int → Int → Int
  | [], n => n
  | c :: r, n => Im e low high r (if (decide (e > 0) && (decide (low < c) && decide (c ≤ high))) = true then n + 1 else n)
noncomputable def Fj (low high : Int) : List (List Int) → List Int → Int → Int
  | cs :: r, e :: t, n => Fj low high r t (Im e low high cs n)
  | _, _, n => n
theorem for_in {A C : Option (Bool × AV)} {e low high : Int} : ∀ (cs : List Int) (n : Int) (cv : Option (Bool × AV)), ∃ cv', Ee [6] (Ah G F N b23d1) (cs.map .int) [A, some (false, .int low), some (false, .int high), some (false, .int n), C, some (false, .int e), cv] = some (.next, [A, some (false, .int low), some (false, .int high), some (false, .int (Im e low high cs n)), C, some (false, .int e), cv'])
  | [], n, cv => ⟨cv, rfl⟩
  | c :: r, n, cv => by
    obtain ⟨cv', ih⟩ := for_in (A := A) (C := C) (e := e) (low := low) (high := high) r (if (decide (e > 0) && (decide (low < c) && decide (c ≤ high))) = true then n + 1 else n) (some (false, .int c))
    refine ⟨cv', ?_⟩
    rw [List.map_cons]
    show _ = some (Out.next, [A, some (false, .int low), some (false, .int high), some (false, .int (Im e low high r _)), C, some (false, .int e), cv'])
    rw [← ih]
    refine Fq ?_
    cases h1 : decide (e > 0) with
    | false => simp only [b23d1, J0, J1, J2, J3, J4, J5, J6, J7, J8, J9, K0, K1, K2, K3, K4, K5, K6, K7, K8, K9, Q0, Q1, Q2, Q3, Q4, Q5, Q6, Q7, Q8, Q9, U0, U1, U2, U3, U4, U5, U6, U7, U8, U9, V0, V1, V2, V3, V4, V5, V6, V7, V8, V9, W0, W1, W2, W3, Cp, Co, Cu, Ct, Ch, Cq, Dm, Dl, Dz, Dw, Dy, Dx, Dk, Dc, Cs, Cg, Cn, Dn, Dd, De, Dp, Do, Dr, Ds, Dt, Du, Cv, Cw, Da, Db, Cj, Ci, Cf, Ce, Bz, Ca, Cb, Bw, Bs, Bt, Bv, Bu, Br, Bo, Bp, Bq, Dq, Cd, Bx, By, Cc, Di, Cm, Cl, Ck, Df, Dg, Dh, h1, Bool.false_and, if_neg Bool.false_ne_true]
    | true => cases h2 : decide (low < c) with
      | false => simp only [b23d1, J0, J1, J2, J3, J4, J5, J6, J7, J8, J9, K0, K1, K2, K3, K4, K5, K6, K7, K8, K9, Q0, Q1, Q2, Q3, Q4, Q5, Q6, Q7, Q8, Q9, U0, U1, U2, U3, U4, U5, U6, U7, U8, U9, V0, V1, V2, V3, V4, V5, V6, V7, V8, V9, W0, W1, W2, W3, Cp, Co, Cu, Ct, Ch, Cq, Dm, Dl, Dz, Dw, Dy, Dx, Dk, Dc, Cs, Cg, Cn, Dn, Dd, De, Dp, Do, Dr, Ds, Dt, Du, Cv, Cw, Da, Db, Cj, Ci, Cf, Ce, Bz, Ca, Cb, Bw, Bs, Bt, Bv, Bu, Br, Bo, Bp, Bq, Dq, Cd, Bx, By, Cc, Di, Cm, Cl, Ck, Df, Dg, Dh, h1, h2, Bool.false_and, Bool.true_and, if_neg Bool.false_ne_true]
      | true => cases h3 : decide (c ≤ high) with
        | false => simp only [b23d1, J0, J1, J2, J3, J4, J5, J6, J7, J8, J9, K0, K1, K2, K3, K4, K5, K6, K7, K8, K9, Q0, Q1, Q2, Q3, Q4, Q5, Q6, Q7, Q8, Q9, U0, U1, U2, U3, U4, U5, U6, U7, U8, U9, V0, V1, V2, V3, V4, V5, V6, V7, V8, V9, W0, W1, W2, W3, Cp, Co, Cu, Ct, Ch, Cq, Dm, Dl, Dz, Dw, Dy, Dx, Dk, Dc, Cs, Cg, Cn, Dn, Dd, De, Dp, Do, Dr, Ds, Dt, Du, Cv, Cw, Da, Db, Cj, Ci, Cf, Ce, Bz, Ca, Cb, Bw, Bs, Bt, Bv, Bu, Br, Bo, Bp, Bq, Dq, Cd, Bx, By, Cc, Di, Cm, Cl, Ck, Df, Dg, Dh, h1, h2, h3, Bool.true_and, if_neg Bool.false_ne_true]
        | true => simp only [b23d1, J0, J1, J2, J3, J4, J5, J6, J7, J8, J9, K0, K1, K2, K3, K4, K5, K6, K7, K8, K9, Q0, Q1, Q2, Q3, Q4, Q5, Q6, Q7, Q8, Q9, U0, U1, U2, U3, U4, U5, U6, U7, U8, U9, V0, V1, V2, V3, V4, V5, V6, V7, V8, V9, W0, W1, W2, W3, Cp, Co, Cu, Ct, Ch, Cq, Dm, Dl, Dz, Dw, Dy, Dx, Dk, Dc, Cs, Cg, Cn, Dn, Dd, De, Dp, Do, Dr, Ds, Dt, Du, Cv, Cw, Da, Db, Cj, Ci, Cf, Ce, Bz, Ca, Cb, Bw, Bs, Bt, Bv, Bu, Br, Bo, Bp, Bq, Dq, Cd, Bx, By, Cc, Di, Cm, Cl, Ck, Df, Dg, Dh, h1, h2, h3, Bool.true_and, if_pos]
theorem for_cnt {A : Option (Bool × AV)} {low high : Int} : ∀ (cs : List (List Int)) (es : List Int) (n : Int) (sv ev cv : Option (Bool × AV)), ∃ sv' ev' cv', Ee [4, 5] (Ah G F N b23d0) (zipL (cs.map fun c => .tup (c.map .int)) (es.map .int)) [A, some (false, .int low), some (false, .int high), some (false, .int n), sv, ev, cv] = some (.next, [A, some (false, .int low), some (false, .int high), some (false, .int (Fj low high cs es n)), sv', ev', cv'])
  | [], es, n, sv, ev, cv => ⟨sv, ev, cv, rfl⟩
  | c :: r, [], n, sv, ev, cv => ⟨sv, ev, cv, rfl⟩
  | c :: r, e :: t, n, sv, ev, cv => by
    obtain ⟨cv₁, h1⟩ := for_in (G := G) (F := F) (N := N) (A := A) (C := some (false, .tup (c.map .int))) (e := e) (low := low) (high := high) c n cv
    obtain ⟨sv', ev', cv', ih⟩ := for_cnt (A := A) (low := low) (high := high) r t (Im e low high c n) (some (false, .tup (c.map .int))) (some (false, .int e)) cv₁
    refine ⟨sv', ev', cv', ?_⟩
    show _ = some (Out.next, [A, some (false, .int low), some (false, .int high), some (false, .int (Fj low high r t (Im e low high c n))), sv', ev', cv'])
    rw [← ih]
    refine f_next2 ?_
    have hit : Et (.tup (c.map AV.int)) = some (c.map AV.int) := rfl
    simp only [b23d0, J1, K0, Q0, V7, V8, V9, W0, W1, hit, h1, J0]
theorem run_count (g : Gu G) (es : List Int) (low high : Int) : ∃ σ', Ah G F N b23.body [some (false, .ilist es), some (false, .int low), some (false, .int high), none, none, none, none] = some (.ret (.int (Fj low high Io es 0)), σ') := by
  obtain ⟨sv', ev', cv', hf⟩ := for_cnt (G := G) (F := F) (N := N) (A := some (false, .ilist es)) (low := low) (high := high) Io es 0 none none none
  refine ⟨[some (false, .ilist es), some (false, .int low), some (false, .int high), some (false, .int (Fj low high Io es 0)), sv', ev', cv'], ?_⟩
  simp only [b23]
  rw [Ag (σ' := [some (false, .ilist es), some (false, .int low), some (false, .int high), some (false, .int 0), none, none, none]) rfl]
  rw [Ag (σ' := [some (false, .ilist es), some (false, .int low), some (false, .int high), some (false, .int (Fj low high Io es 0)), sv', ev', cv']) (by
    have hz : zipop (.tup [.tup [.int 0], .tup [.int 1], .tup [.int 0], .tup [.int (-1), .int 2], .tup []]) (.ilist es) = some (.list (zipL (Io.map fun c => .tup (c.map .int)) (es.map .int))) := rfl
    rw [K0, V4, Q2, g.ceil, Q0, V7]
    simp only [V8, hz]
    exact hf)]
  rfl
end
end Mine
end
section
open PySem
namespace Mine
set_option tactic.hygienic false
set_option autoImplicit false
noncomputable def Jp (x : Int) : List (List Int) → Option (List Int)
  | [] => some []
  | f :: r => match value f x, Jp x r with
    | some v, some vs => some (if v = 0 then vs else v :: vs)
    | _, _ => none
noncomputable def chgAt (vs : List Int) (i : Nat) : Bool := decide (vs.getD i 0 > 0) != decide (vs.getD (i + 1) 0 > 0)
noncomputable def chgs (vs : List Int) : List Nat → Int → Int
  | [], n => n
  | i :: r, n => chgs vs r (if chgAt vs i then n + 1 else n)
noncomputable def changes (vs : List Int) : Int := chgs vs (List.range (vs.length - 1)) 0
noncomputable def Gg (L : List (List Int)) (x : Int) : Option Int := if LIM < L.length then none else (Jp x L).map changes
theorem valsO_len {x : Int} : ∀ {L : List (List Int)} {vs : List Int}, Jp x L = some vs → vs.length ≤ L.length
  | [], vs, h => by obtain rfl := Option.some.inj h; exact Nat.le_refl _
  | f :: r, vs, h => by
    have e : Jp x (f :: r) = (match value f x, Jp x r with | some v, some vs => some (if v = 0 then vs else v :: vs) | _, _ => none) := rfl
    rw [e] at h
    cases q1 : value f x with
    | none => rw [q1] at h; exact (nS h).elim
    | some v => cases q2 : Jp x r with
      | none => rw [q1, q2] at h; exact (nS h).elim
      | some ws =>
        rw [q1, q2] at h
        obtain rfl := Option.some.inj h
        have := valsO_len q2
        by_cases q : v = 0
        · rw [if_pos q]; exact Nat.le_succ_of_le this
        · rw [if_neg q]; exact Nat.succ_le_succ this
section
variable {G : Str → Option AV} {F : Nat → List AV → Option Res} {N : Nat}
theorem for_vals (h8 : ∀ a n v, value a n = some v → F 8 [.ilist a, .int n] = some (.val (.int v))) {A C D K : Option (Bool × AV)} {x : Int} : ∀ (L : List (List Int)) (vs out : List Int) (fv vv : Option (Bool × AV)), Jp x L = some vs → out.length + L.length ≤ LIM → ∃ fv' vv',
    Ee [3] (Ah G F N b15d0) (L.map .ilist) [A, some (false, .int x), some (true, .ilist out), fv, vv, C, K] = some (.next, [A, some (false, .int x), some (true, .ilist (out ++ vs)), fv', vv', C, K])
  | [], vs, out, fv, vv, h, _ => by
    obtain rfl := Option.some.inj h
    exact ⟨fv, vv, by rw [List.append_nil]; rfl⟩
  | f :: r, vs, out, fv, vv, h, hl => by
    rw [List.length_cons] at hl
    have e : Jp x (f :: r) = (match value f x, Jp x r with | some v, some vs => some (if v = 0 then vs else v :: vs) | _, _ => none) := rfl
    rw [e] at h
    cases q1 : value f x with
    | none => rw [q1] at h; exact (nS h).elim
    | some v => cases q2 : Jp x r with
      | none => rw [q1, q2] at h; exact (nS h).elim
      | some ws =>
        rw [q1, q2] at h
        obtain rfl := Option.some.inj h
        have hv := h8 f x v q1
        have hlo : out.length < LIM := by exact ZV ‹_›
        by_cases q : v = 0
        · have hb : (v == 0) = true := by rw [q]; rfl
          obtain ⟨fv', vv', ih⟩ := for_vals h8 (A := A) (C := C) (D := D) (K := K) r ws out (some (false, .ilist f)) (some (false, .int v)) q2 (by lia)
          refine ⟨fv', vv', ?_⟩
          rw [if_pos q, ← ih, List.map_cons]
          refine Fq ?_
          simp only [b15d0, J0, J1, J2, J3, J4, J5, J6, J7, J8, J9, K0, K1, K2, K3, K4, K5, K6, K7, K8, K9, Q0, Q1, Q2, Q3, Q4, Q5, Q6, Q7, Q8, Q9, U0, U1, U2, U3, U4, U5, U6, U7, U8, U9, V0, V1, V2, V3, V4, V5, V6, V7, V8, V9, W0, W1, W2, W3, Cp, Co, Cu, Ct, Ch, Cq, Dm, Dl, Dz, Dw, Dy, Dx, Dk, Dc, Cs, Cg, Cn, Dn, Dd, De, Dp, Do, Dr, Ds, Dt, Du, Cv, Cw, Da, Db, Cj, Ci, Cf, Ce, Bz, Ca, Cb, Bw, Bs, Bt, Bv, Bu, Br, Bo, Bp, Bq, Dq, Cd, Bx, By, Cc, Di, Cm, Cl, Ck, Df, Dg, Dh, hv, eq_int, eq_bool, eq_str, Ea, hb, Bool.not_true]
        · have hb : (v == 0) = false := by simpa using q
          obtain ⟨fv', vv', ih⟩ := for_vals h8 (A := A) (C := C) (D := D) (K := K) r ws (out ++ [v]) (some (false, .ilist f)) (some (false, .int v)) q2 (by rw [List.length_append]; simp only [List.length_cons, List.length_nil]; exact ZW ‹_›)
          refine ⟨fv', vv', ?_⟩
          have e0 : out ++ v :: ws = out ++ [v] ++ ws := by simp
          rw [if_neg q, e0, ← ih, List.map_cons]
          refine Fq ?_
          simp only [b15d0, J0, J1, J2, J3, J4, J5, J6, J7, J8, J9, K0, K1, K2, K3, K4, K5, K6, K7, K8, K9, Q0, Q1, Q2, Q3, Q4, Q5, Q6, Q7, Q8, Q9, U0, U1, U2, U3, U4, U5, U6, U7, U8, U9, V0, V1, V2, V3, V4, V5, V6, V7, V8, V9, W0, W1, W2, W3, Cp, Co, Cu, Ct, Ch, Cq, Dm, Dl, Dz, Dw, Dy, Dx, Dk, Dc, Cs, Cg, Cn, Dn, Dd, De, Dp, Do, Dr, Ds, Dt, Du, Cv, Cw, Da, Db, Cj, Ci, Cf, Ce, Bz, Ca, Cb, Bw, Bs, Bt, Bv, Bu, Br, Bo, Bp, Bq, Dq, Cd, Bx, By, Cc, Di, Cm, Cl, Ck, Df, Dg, Dh, hv, eq_int, eq_bool, eq_str, Ea, hb, Bool.not_false, Gc, hlo, if_true]
theorem for_chg {A B C D : Option (Bool × AV)} {vs : List Int} : ∀ (is : List Nat) (n : Int) (kv : Option (Bool × AV)), (∀ i ∈ is, i + 1 < vs.length) → ∃ kv',
    Ee [6] (Ah G F N b15d1) (is.map fun (i : Nat) => AV.int ((i : Int) + 1)) [A, B, some (true, .ilist vs), C, D, some (false, .int n), kv] = some (.next, [A, B, some (true, .ilist vs), C, D, some (false, .int (chgs vs is n)), kv'])
  | [], n, kv, _ => ⟨kv, rfl⟩
  | i :: r, n, kv, h => by
    obtain ⟨kv', ih⟩ := for_chg (A := A) (B := B) (C := C) (D := D) (vs := vs) r (if chgAt vs i then n + 1 else n) (some (false, .int ((i : Int) + 1))) (fun j hj => h j (List.mem_cons_of_mem _ hj))
    refine ⟨kv', ?_⟩
    show _ = some (Out.next, [A, B, some (true, .ilist vs), C, D, some (false, .int (chgs vs r _)), kv'])
    rw [← ih, List.map_cons]
    have hi := h i List.mem_cons_self
    have e1 : (i : Int) + 1 - 1 = (i : Int) := Int.add_sub_cancel _ _
    have e2 : (i : Int) + 1 = ((i + 1 : Nat) : Int) := rfl
    have g1 : Az (.ilist vs) (.int (i : Int)) = some (.int (vs.getD i 0)) := by simp only [Az, Bj, getD_some (Nat.lt_of_succ_lt hi), W2]
    have g2 : Az (.ilist vs) (.int ((i : Int) + 1)) = some (.int (vs.getD (i + 1) 0)) := by rw [e2]; simp only [Az, Bj, getD_some hi, W2]
    refine Fq ?_
    have hb : ∀ p q : Bool, (p == q) = !(p != q) := by decide
    cases hc : chgAt vs i with
    | true =>
      unfold chgAt at hc
      simp only [b15d1, J0, J1, J2, J3, J4, J5, J6, J7, J8, J9, K0, K1, K2, K3, K4, K5, K6, K7, K8, K9, Q0, Q1, Q2, Q3, Q4, Q5, Q6, Q7, Q8, Q9, U0, U1, U2, U3, U4, U5, U6, U7, U8, U9, V0, V1, V2, V3, V4, V5, V6, V7, V8, V9, W0, W1, W2, W3, Cp, Co, Cu, Ct, Ch, Cq, Dm, Dl, Dz, Dw, Dy, Dx, Dk, Dc, Cs, Cg, Cn, Dn, Dd, De, Dp, Do, Dr, Ds, Dt, Du, Cv, Cw, Da, Db, Cj, Ci, Cf, Ce, Bz, Ca, Cb, Bw, Bs, Bt, Bv, Bu, Br, Bo, Bp, Bq, Dq, Cd, Bx, By, Cc, Di, Cm, Cl, Ck, Df, Dg, Dh, e1, g1, g2, eq_int, eq_bool, eq_str, Ea, hb, hc, Bool.not_true, Bool.not_false, if_true]
    | false =>
      unfold chgAt at hc
      simp only [b15d1, J0, J1, J2, J3, J4, J5, J6, J7, J8, J9, K0, K1, K2, K3, K4, K5, K6, K7, K8, K9, Q0, Q1, Q2, Q3, Q4, Q5, Q6, Q7, Q8, Q9, U0, U1, U2, U3, U4, U5, U6, U7, U8, U9, V0, V1, V2, V3, V4, V5, V6, V7, V8, V9, W0, W1, W2, W3, Cp, Co, Cu, Ct, Ch, Cq, Dm, Dl, Dz, Dw, Dy, Dx, Dk, Dc, Cs, Cg, Cn, Dn, Dd, De, Dp, Do, Dr, Ds, Dt, Du, Cv, Cw, Da, Db, Cj, Ci, Cf, Ce, Bz, Ca, Cb, Bw, Bs, Bt, Bv, Bu, Br, Bo, Bp, Bq, Dq, Cd, Bx, By, Cc, Di, Cm, Cl, Ck, Df, Dg, Dh, e1, g1, g2, eq_int, eq_bool, eq_str, Ea, hb, hc, Bool.not_true, Bool.not_false, if_neg Bool.false_ne_true]
theorem run_sign (h8 : ∀ a n v, value a n = some v → F 8 [.ilist a, .int n] = some (.val (.int v))) {L : List (List Int)} {x r : Int} (h : Gg L x = some r) : ∃ σ', Ah G F N b15.body [some (false, .list (L.map .ilist)), some (false, .int x), none, none, none, none, none] = some (.ret (.int r), σ') := by
  obtain ⟨hl, h⟩ := iE h
  obtain ⟨vs, hv, rfl⟩ := mS h
  have hl' : L.length ≤ LIM := Nat.le_of_not_lt hl
  obtain ⟨fv', vv', h1⟩ := for_vals (G := G) (N := N) h8 (A := some (false, .list (L.map .ilist))) (C := none) (D := none) (K := none) L vs [] none none hv (by rw [List.length_nil, Nat.zero_add]; exact hl')
  rw [List.nil_append] at h1
  obtain ⟨kv', h2⟩ := for_chg (G := G) (F := F) (N := N) (A := some (false, .list (L.map .ilist))) (B := some (false, .int x)) (C := fv') (D := vv') (vs := vs) (List.range (vs.length - 1)) 0 none (fun i hi => by have := List.mem_range.mp hi; lia)
  refine ⟨[some (false, .list (L.map .ilist)), some (false, .int x), some (true, .ilist vs), fv', vv', some (false, .int (changes vs)), kv'], ?_⟩
  simp only [b15]
  rw [Ag (σ' := [some (false, .list (L.map .ilist)), some (false, .int x), some (true, .ilist []), none, none, none, none]) rfl]
  rw [Ag (σ' := [some (false, .list (L.map .ilist)), some (false, .int x), some (true, .ilist vs), fv', vv', none, none]) (by
    have hit : Et (.list (L.map AV.ilist)) = some (L.map AV.ilist) := rfl
    simp only [K0, Q0, V7, V8, hit, h1])]
  rw [Ag (σ' := [some (false, .list (L.map .ilist)), some (false, .int x), some (true, .ilist vs), fv', vv', some (false, .int 0), none]) rfl]
  rw [Ag (σ' := [some (false, .list (L.map .ilist)), some (false, .int x), some (true, .ilist vs), fv', vv', some (false, .int (changes vs)), kv']) (by
    have hvl : vs.length ≤ LIM := Nat.le_trans (valsO_len hv) hl'
    rw [K0, V0, K9, U2, Q1, V6]
    simp only [V8, V9, Cd, Bx, By, Cc, Di, Cm, Cl, Ck, Df, Dg, Dh, range_one vs.length hvl, Bl, List.map_map]
    exact h2)]
  rfl
noncomputable def Ij : Nat → List (List Int) → List Int → List Int → Option (List (List Int))
  | 0, _, _, _ => none
  | f + 1, pre, p, q => if ¬ 1 < q.length then some (pre ++ [p, q]) else match Ev p q with
    | none => none
    | some z => if z = [] then some (pre ++ [p, q]) else match Es z with
      | none => none
      | some w => if LIM ≤ pre.length + 2 ∨ LIM < w.length then none else Ij f (pre ++ [p]) q (w.map fun c => -c)
noncomputable def Iv (f : Nat) (a : List Int) (low high : Int) : Option Int := match primitive a with
  | none => none
  | some b => if b.length < 2 then some 0 else match derivative b with
    | none => none
    | some d => match gcdP b d with
      | none => none
      | some g0 => match primitive g0 with
        | none => none
        | some g => match Ec b g with
          | some (some b2) => (match derivative b2 with
            | none => none
            | some d2 => match Ij f [] b2 d2 with
              | none => none
              | some L => match Gg L low, Gg L high with
                | some u, some v => some (u - v)
                | _, _ => none)
          | _ => none
theorem idx_last {L : List AV} {p q : AV} : Az (.list (L ++ [p, q])) (.int (-1)) = some q := by
  have h1 : ¬ (0 : Int) ≤ -1 := by decide
  have h2 : -(((L ++ [p, q]).length : Nat) : Int) ≤ -1 := by rw [List.length_append]; simp only [List.length_cons, List.length_nil]; lia
  have h3 : ((((L ++ [p, q]).length : Nat) : Int) + -1).toNat = L.length + 1 := by rw [List.length_append]; simp only [List.length_cons, List.length_nil]; lia
  show getI (L ++ [p, q]) (-1) = some q
  unfold getI
  rw [if_neg h1, if_pos h2, h3, List.getElem?_append_right (Nat.le_add_right _ _), Nat.add_sub_cancel_left]; rfl
theorem idx_last2 {L : List AV} {p q : AV} : Az (.list (L ++ [p, q])) (.int (-2)) = some p := by
  have h1 : ¬ (0 : Int) ≤ -2 := by decide
  have h2 : -(((L ++ [p, q]).length : Nat) : Int) ≤ -2 := by rw [List.length_append]; simp only [List.length_cons, List.length_nil]; lia
  have h3 : ((((L ++ [p, q]).length : Nat) : Int) + -2).toNat = L.length := by rw [List.length_append]; simp only [List.length_cons, List.length_nil]; lia
  show getI (L ++ [p, q]) (-2) = some p
  unfold getI
  rw [if_neg h1, if_pos h2, h3, List.getElem?_append_right (Nat.le_refl _), Nat.sub_self]; rfl
theorem while_ch (h3 : ∀ x y r, Ev x y = some r → F 3 [.ilist x, .ilist y] = some (.val (.ilist r))) (h4 : ∀ z r, Es z = some r → F 4 [.ilist z] = some (.val (.ilist r))) {A B C D E : Option (Bool × AV)} :
    ∀ (f : Nat) (pre : List (List Int)) (p q : List Int) (r : List (List Int)) (k : Nat) (zv : Option (Bool × AV)), Ij f pre p q = some r → f ≤ k → ∃ zv',
    Ej (Bc G F b16c0) (Ah G F N b16d0) k [A, B, C, D, E, some (true, .list (pre.map .ilist ++ [.ilist p, .ilist q])), zv] = some (.next, [A, B, C, D, E, some (true, .list (r.map .ilist)), zv'])
  | 0, pre, p, q, r, k, zv, h, _ => (nS h).elim
  | f + 1, pre, p, q, r, 0, zv, h, hk => absurd hk (Nat.not_succ_le_zero _)
  | f + 1, pre, p, q, r, k + 1, zv, h, hk => by
    have hc : Ij (f + 1) pre p q = (if ¬ 1 < q.length then some (pre ++ [p, q]) else match Ev p q with
      | none => none
      | some z => if z = [] then some (pre ++ [p, q]) else match Es z with
        | none => none
        | some w => if LIM ≤ pre.length + 2 ∨ LIM < w.length then none else Ij f (pre ++ [p]) q (w.map fun c => -c)) := rfl
    rw [hc] at h
    have hend : some (pre ++ [p, q]) = some r → r.map AV.ilist = pre.map AV.ilist ++ [.ilist p, .ilist q] := fun e => by obtain rfl := Option.some.inj e; rw [List.map_append]; rfl
    by_cases hq : 1 < q.length
    · rw [if_neg (fun n => n hq)] at h
      have hd : decide ((q.length : Int) > 1) = true := decide_eq_true (Int.ofNat_lt.mpr hq)
      have hcond : Bc G F b16c0 [A, B, C, D, E, some (true, .list (pre.map .ilist ++ [.ilist p, .ilist q])), zv] = some true := by
        simp only [b16c0, J0, J1, J2, J3, J4, J5, J6, J7, J8, J9, K0, K1, K2, K3, K4, K5, K6, K7, K8, K9, Q0, Q1, Q2, Q3, Q4, Q5, Q6, Q7, Q8, Q9, U0, U1, U2, U3, U4, U5, U6, U7, U8, U9, V0, V1, V2, V3, V4, V5, V6, V7, V8, V9, W0, W1, W2, W3, Cp, Co, Cu, Ct, Ch, Cq, Dm, Dl, Dz, Dw, Dy, Dx, Dk, Dc, Cs, Cg, Cn, Dn, Dd, De, Dp, Do, Dr, Ds, Dt, Du, Cv, Cw, Da, Db, Cj, Ci, Cf, Ce, Bz, Ca, Cb, Bw, Bs, Bt, Bv, Bu, Br, Bo, Bp, Bq, Dq, Cd, Bx, By, Cc, Di, Cm, Cl, Ck, Df, Dg, Dh, Int.reduceNeg, idx_last, hd]
      cases hp : Ev p q with
      | none => rw [hp] at h; exact (nS h).elim
      | some z =>
        rw [hp] at h
        dsimp only at h
        have hp' := h3 p q z hp
        have hs1 : Ah G F N (.assign 6 (.call 3 (.cons (.idx (.rd 5) (.neg (.lit (.int 2)))) (.cons (.idx (.rd 5) (.neg (.lit (.int 1)))) .nil)))) [A, B, C, D, E, some (true, .list (pre.map .ilist ++ [.ilist p, .ilist q])), zv] = some (.next, [A, B, C, D, E, some (true, .list (pre.map .ilist ++ [.ilist p, .ilist q])), some (false, .ilist z)]) := by
          simp only [J0, J1, J2, J3, J4, J5, J6, J7, J8, J9, K0, K1, K2, K3, K4, K5, K6, K7, K8, K9, Q0, Q1, Q2, Q3, Q4, Q5, Q6, Q7, Q8, Q9, U0, U1, U2, U3, U4, U5, U6, U7, U8, U9, V0, V1, V2, V3, V4, V5, V6, V7, V8, V9, W0, W1, W2, W3, Cp, Co, Cu, Ct, Ch, Cq, Dm, Dl, Dz, Dw, Dy, Dx, Dk, Dc, Cs, Cg, Cn, Dn, Dd, De, Dp, Do, Dr, Ds, Dt, Du, Cv, Cw, Da, Db, Cj, Ci, Cf, Ce, Bz, Ca, Cb, Bw, Bs, Bt, Bv, Bu, Br, Bo, Bp, Bq, Dq, Cd, Bx, By, Cc, Di, Cm, Cl, Ck, Df, Dg, Dh, Int.reduceNeg, idx_last, idx_last2, hp']
        by_cases hz : z = []
        · rw [if_pos hz] at h
          refine ⟨some (false, .ilist z), ?_⟩
          rw [hend h]
          subst hz
          refine w_brk hcond ?_
          simp only [b16d0]
          rw [Ag hs1]; rfl
        · rw [if_neg hz] at h
          cases hw : Es z with
          | none => rw [hw] at h; exact (nS h).elim
          | some w =>
            rw [hw] at h
            dsimp only at h
            obtain ⟨hlim, h⟩ := iE h
            rw [not_or] at hlim
            obtain ⟨zv', ih⟩ := while_ch h3 h4 (A := A) (B := B) (C := C) (D := D) (E := E) f (pre ++ [p]) q (w.map fun c => -c) r k (some (false, .ilist z)) h (Nat.le_of_succ_le_succ hk)
            refine ⟨zv', ?_⟩
            rw [← ih]
            refine Hp hcond ?_
            have hzb : (!z.isEmpty) = true := by cases z with | nil => exact absurd rfl hz | cons a r => rfl
            have hw' := h4 z w hw
            have hcomp : Ae G F (.comp (.neg (.rd 7)) 1 (.call 4 (.cons (.var 6) .nil)) (.lit (.bool true))) [A, B, C, D, E, some (true, .list (pre.map .ilist ++ [.ilist p, .ilist q])), some (false, .ilist z)] = some (.ilist (w.map fun c => -c)) := by
              rw [U9]
              simp only [U1, K8, K7, Q0, V7, V8, V9, hw', Bl]
              rw [if_pos (by rw [List.length_map]; exact Nat.le_of_not_lt hlim.2), Gj (g := fun c => -c) (fun c _ => rfl), W2, Fg]
            have hlo : (pre.map AV.ilist ++ [AV.ilist p, AV.ilist q]).length < LIM := by rw [List.length_append, List.length_map]; exact Nat.lt_of_not_le hlim.1
            simp only [b16d0]
            rw [Ag hs1]
            rw [Ag (σ' := [A, B, C, D, E, some (true, .list (pre.map .ilist ++ [.ilist p, .ilist q])), some (false, .ilist z)]) (by simp only [J0, J1, J2, J3, J4, J5, J6, J7, J8, J9, K0, K1, K2, K3, K4, K5, K6, K7, K8, K9, Q0, Q1, Q2, Q3, Q4, Q5, Q6, Q7, Q8, Q9, U0, U1, U2, U3, U4, U5, U6, U7, U8, U9, V0, V1, V2, V3, V4, V5, V6, V7, V8, V9, W0, W1, W2, W3, Cp, Co, Cu, Ct, Ch, Cq, Dm, Dl, Dz, Dw, Dy, Dx, Dk, Dc, Cs, Cg, Cn, Dn, Dd, De, Dp, Do, Dr, Ds, Dt, Du, Cv, Cw, Da, Db, Cj, Ci, Cf, Ce, Bz, Ca, Cb, Bw, Bs, Bt, Bv, Bu, Br, Bo, Bp, Bq, Dq, Cd, Bx, By, Cc, Di, Cm, Cl, Ck, Df, Dg, Dh, hzb, Bool.not_true])]
            simp only [J1, J7, J0, hcomp, V8, V9, Gc, hlo, if_true, W0, W1, List.map_append, List.map_cons, List.map_nil, List.append_assoc, List.cons_append, List.nil_append]
    · rw [if_pos hq] at h
      have hd : decide ((q.length : Int) > 1) = false := decide_eq_false (mt Int.ofNat_lt.mp hq)
      refine ⟨zv, ?_⟩
      rw [hend h]
      exact Hk (by simp only [b16c0, J0, J1, J2, J3, J4, J5, J6, J7, J8, J9, K0, K1, K2, K3, K4, K5, K6, K7, K8, K9, Q0, Q1, Q2, Q3, Q4, Q5, Q6, Q7, Q8, Q9, U0, U1, U2, U3, U4, U5, U6, U7, U8, U9, V0, V1, V2, V3, V4, V5, V6, V7, V8, V9, W0, W1, W2, W3, Cp, Co, Cu, Ct, Ch, Cq, Dm, Dl, Dz, Dw, Dy, Dx, Dk, Dc, Cs, Cg, Cn, Dn, Dd, De, Dp, Do, Dr, Ds, Dt, Du, Cv, Cw, Da, Db, Cj, Ci, Cf, Ce, Bz, Ca, Cb, Bw, Bs, Bt, Bv, Bu, Br, Bo, Bp, Bq, Dq, Cd, Bx, By, Cc, Di, Cm, Cl, Ck, Df, Dg, Dh, Int.reduceNeg, idx_last, hd])
theorem run_rroots (h3 : ∀ x y r, Ev x y = some r → F 3 [.ilist x, .ilist y] = some (.val (.ilist r))) (h4 : ∀ z r, Es z = some r → F 4 [.ilist z] = some (.val (.ilist r))) (h7 : ∀ a r, derivative a = some r → F 7 [.ilist a] = some (.val (.ilist r)))
    (h10 : ∀ a b q, Ec a b = some (some q) → F 10 [.ilist a, .ilist b] = some (.val (.ilist q))) (h12 : ∀ a r, primitive a = some r → F 12 [.ilist a] = some (.val (.ilist r))) (h13 : ∀ a b r, gcdP a b = some r → F 13 [.ilist a, .ilist b] = some (.val (.ilist r)))
    (h15 : ∀ L x r, Gg L x = some r → F 15 [.list (L.map .ilist), .int x] = some (.val (.int r))) {f : Nat} {a : List Int} {low high r : Int} (h : Iv f a low high = some r) (hN : f ≤ N) :
    ∃ σ', Ah G F N b16.body [some (false, .ilist a), some (false, .int low), some (false, .int high), none, none, none, none] = some (.ret (.int r), σ') := by
  unfold Iv at h
  simp only [b16]
  cases hb : primitive a with
  | none => rw [hb] at h; exact (nS h).elim
  | some b =>
    rw [hb] at h
    dsimp only at h
    rw [Ag (σ' := [some (false, .ilist a), some (false, .int low), some (false, .int high), some (false, .ilist b), none, none, none]) (by simp only [J0, J1, J2, J3, J4, J5, J6, J7, J8, J9, K0, K1, K2, K3, K4, K5, K6, K7, K8, K9, Q0, Q1, Q2, Q3, Q4, Q5, Q6, Q7, Q8, Q9, U0, U1, U2, U3, U4, U5, U6, U7, U8, U9, V0, V1, V2, V3, V4, V5, V6, V7, V8, V9, W0, W1, W2, W3, Cp, Co, Cu, Ct, Ch, Cq, Dm, Dl, Dz, Dw, Dy, Dx, Dk, Dc, Cs, Cg, Cn, Dn, Dd, De, Dp, Do, Dr, Ds, Dt, Du, Cv, Cw, Da, Db, Cj, Ci, Cf, Ce, Bz, Ca, Cb, Bw, Bs, Bt, Bv, Bu, Br, Bo, Bp, Bq, Dq, Cd, Bx, By, Cc, Di, Cm, Cl, Ck, Df, Dg, Dh, h12 a b hb])]
    by_cases hl : b.length < 2
    · rw [if_pos hl] at h
      obtain rfl := Option.some.inj h
      have hd : decide ((b.length : Int) < 2) = true := decide_eq_true (Int.ofNat_lt.mpr hl)
      exact ⟨[some (false, .ilist a), some (false, .int low), some (false, .int high), some (false, .ilist b), none, none, none], Ho (by simp only [J0, J1, J2, J3, J4, J5, J6, J7, J8, J9, K0, K1, K2, K3, K4, K5, K6, K7, K8, K9, Q0, Q1, Q2, Q3, Q4, Q5, Q6, Q7, Q8, Q9, U0, U1, U2, U3, U4, U5, U6, U7, U8, U9, V0, V1, V2, V3, V4, V5, V6, V7, V8, V9, W0, W1, W2, W3, Cp, Co, Cu, Ct, Ch, Cq, Dm, Dl, Dz, Dw, Dy, Dx, Dk, Dc, Cs, Cg, Cn, Dn, Dd, De, Dp, Do, Dr, Ds, Dt, Du, Cv, Cw, Da, Db, Cj, Ci, Cf, Ce, Bz, Ca, Cb, Bw, Bs, Bt, Bv, Bu, Br, Bo, Bp, Bq, Dq, Cd, Bx, By, Cc, Di, Cm, Cl, Ck, Df, Dg, Dh, hd])⟩
    · rw [if_neg hl] at h
      have hd : decide ((b.length : Int) < 2) = false := decide_eq_false (mt Int.ofNat_lt.mp hl)
      rw [Ag (σ' := [some (false, .ilist a), some (false, .int low), some (false, .int high), some (false, .ilist b), none, none, none]) (by simp only [J0, J1, J2, J3, J4, J5, J6, J7, J8, J9, K0, K1, K2, K3, K4, K5, K6, K7, K8, K9, Q0, Q1, Q2, Q3, Q4, Q5, Q6, Q7, Q8, Q9, U0, U1, U2, U3, U4, U5, U6, U7, U8, U9, V0, V1, V2, V3, V4, V5, V6, V7, V8, V9, W0, W1, W2, W3, Cp, Co, Cu, Ct, Ch, Cq, Dm, Dl, Dz, Dw, Dy, Dx, Dk, Dc, Cs, Cg, Cn, Dn, Dd, De, Dp, Do, Dr, Ds, Dt, Du, Cv, Cw, Da, Db, Cj, Ci, Cf, Ce, Bz, Ca, Cb, Bw, Bs, Bt, Bv, Bu, Br, Bo, Bp, Bq, Dq, Cd, Bx, By, Cc, Di, Cm, Cl, Ck, Df, Dg, Dh, hd])]
      cases hd1 : derivative b with
      | none => rw [hd1] at h; exact (nS h).elim
      | some d =>
        rw [hd1] at h
        dsimp only at h
        cases hg0 : gcdP b d with
        | none => rw [hg0] at h; exact (nS h).elim
        | some g0 =>
          rw [hg0] at h
          dsimp only at h
          cases hg : primitive g0 with
          | none => rw [hg] at h; exact (nS h).elim
          | some g =>
            rw [hg] at h
            dsimp only at h
            rw [Ag (σ' := [some (false, .ilist a), some (false, .int low), some (false, .int high), some (false, .ilist b), some (false, .ilist g), none, none]) (by simp only [J0, J1, J2, J3, J4, J5, J6, J7, J8, J9, K0, K1, K2, K3, K4, K5, K6, K7, K8, K9, Q0, Q1, Q2, Q3, Q4, Q5, Q6, Q7, Q8, Q9, U0, U1, U2, U3, U4, U5, U6, U7, U8, U9, V0, V1, V2, V3, V4, V5, V6, V7, V8, V9, W0, W1, W2, W3, Cp, Co, Cu, Ct, Ch, Cq, Dm, Dl, Dz, Dw, Dy, Dx, Dk, Dc, Cs, Cg, Cn, Dn, Dd, De, Dp, Do, Dr, Ds, Dt, Du, Cv, Cw, Da, Db, Cj, Ci, Cf, Ce, Bz, Ca, Cb, Bw, Bs, Bt, Bv, Bu, Br, Bo, Bp, Bq, Dq, Cd, Bx, By, Cc, Di, Cm, Cl, Ck, Df, Dg, Dh, h7 b d hd1, h13 b d g0 hg0, h12 g0 g hg])]
            cases hdv : Ec b g with
            | none => rw [hdv] at h; exact (nS h).elim
            | some o => cases o with
              | none => rw [hdv] at h; exact (nS h).elim
              | some b2 =>
                rw [hdv] at h
                dsimp only at h
                rw [Ag (σ' := [some (false, .ilist a), some (false, .int low), some (false, .int high), some (false, .ilist b2), some (false, .ilist g), none, none]) (by simp only [J0, J1, J2, J3, J4, J5, J6, J7, J8, J9, K0, K1, K2, K3, K4, K5, K6, K7, K8, K9, Q0, Q1, Q2, Q3, Q4, Q5, Q6, Q7, Q8, Q9, U0, U1, U2, U3, U4, U5, U6, U7, U8, U9, V0, V1, V2, V3, V4, V5, V6, V7, V8, V9, W0, W1, W2, W3, Cp, Co, Cu, Ct, Ch, Cq, Dm, Dl, Dz, Dw, Dy, Dx, Dk, Dc, Cs, Cg, Cn, Dn, Dd, De, Dp, Do, Dr, Ds, Dt, Du, Cv, Cw, Da, Db, Cj, Ci, Cf, Ce, Bz, Ca, Cb, Bw, Bs, Bt, Bv, Bu, Br, Bo, Bp, Bq, Dq, Cd, Bx, By, Cc, Di, Cm, Cl, Ck, Df, Dg, Dh, h10 b g b2 hdv])]
                cases hd2 : derivative b2 with
                | none => rw [hd2] at h; exact (nS h).elim
                | some d2 =>
                  rw [hd2] at h
                  dsimp only at h
                  cases hL : Ij f [] b2 d2 with
                  | none => rw [hL] at h; exact (nS h).elim
                  | some L =>
                    rw [hL] at h
                    dsimp only at h
                    cases hu : Gg L low with
                    | none => rw [hu] at h; exact (nS h).elim
                    | some u => cases hv : Gg L high with
                      | none => rw [hu, hv] at h; exact (nS h).elim
                      | some v =>
                        rw [hu, hv] at h
                        obtain rfl := Option.some.inj h
                        obtain ⟨zv', hw⟩ := while_ch (G := G) (N := N) h3 h4 (A := some (false, .ilist a)) (B := some (false, .int low)) (C := some (false, .int high)) (D := some (false, .ilist b2)) (E := some (false, .ilist g)) f [] b2 d2 L N none hL hN
                        refine ⟨[some (false, .ilist a), some (false, .int low), some (false, .int high), some (false, .ilist b2), some (false, .ilist g), some (false, .list (L.map .ilist)), zv'], ?_⟩
                        rw [Ag (σ' := [some (false, .ilist a), some (false, .int low), some (false, .int high), some (false, .ilist b2), some (false, .ilist g), some (true, .list [.ilist b2, .ilist d2]), none]) (by
                          simp only [J0, J1, J2, J3, J4, J5, J6, J7, J8, J9, K0, K1, K2, K3, K4, K5, K6, K7, K8, K9, Q0, Q1, Q2, Q3, Q4, Q5, Q6, Q7, Q8, Q9, U0, U1, U2, U3, U4, U5, U6, U7, U8, U9, V0, V1, V2, V3, V4, V5, V6, V7, V8, V9, W0, W1, W2, W3, Cp, Co, Cu, Ct, Ch, Cq, Dm, Dl, Dz, Dw, Dy, Dx, Dk, Dc, Cs, Cg, Cn, Dn, Dd, De, Dp, Do, Dr, Ds, Dt, Du, Cv, Cw, Da, Db, Cj, Ci, Cf, Ce, Bz, Ca, Cb, Bw, Bs, Bt, Bv, Bu, Br, Bo, Bp, Bq, Dq, Cd, Bx, By, Cc, Di, Cm, Cl, Ck, Df, Dg, Dh, h7 b2 d2 hd2, List.length_cons, List.length_nil, lim2, if_true]; rfl)]
                        rw [Ag (σ' := [some (false, .ilist a), some (false, .int low), some (false, .int high), some (false, .ilist b2), some (false, .ilist g), some (true, .list (L.map .ilist)), zv']) (by rw [J9]; exact hw)]
                        simp only [J0, J1, J2, J3, J4, J5, J6, J7, J8, J9, K0, K1, K2, K3, K4, K5, K6, K7, K8, K9, Q0, Q1, Q2, Q3, Q4, Q5, Q6, Q7, Q8, Q9, U0, U1, U2, U3, U4, U5, U6, U7, U8, U9, V0, V1, V2, V3, V4, V5, V6, V7, V8, V9, W0, W1, W2, W3, Cp, Co, Cu, Ct, Ch, Cq, Dm, Dl, Dz, Dw, Dy, Dx, Dk, Dc, Cs, Cg, Cn, Dn, Dd, De, Dp, Do, Dr, Ds, Dt, Du, Cv, Cw, Da, Db, Cj, Ci, Cf, Ce, Bz, Ca, Cb, Bw, Bs, Bt, Bv, Bu, Br, Bo, Bp, Bq, Dq, Cd, Bx, By, Cc, Di, Cm, Cl, Ck, Df, Dg, Dh, freeze, h15 L low u hu, h15 L high v hv]
end
end Mine
end
section
open PySem
namespace Mine
set_option tactic.hygienic false
set_option autoImplicit false
noncomputable def zipI (g : Int → Int → Int) : List Int → List Int → List Int
  | x :: r, y :: t => g x y :: zipI g r t
  | _, _ => []
noncomputable def minI (x y : Int) : Int := if y < x then y else x
noncomputable def Fo (n : Int) : Int := ([1, -1, 2, -2, 3, -6, 0, 1] : List Int).getD (n.fmod 8).toNat 0
theorem zipL_le : ∀ es fs : List Int, (zipL (es.map .int) (fs.map .int)).length ≤ es.length
  | [], _ => Nat.le_refl _
  | _ :: _, [] => Nat.zero_le _
  | x :: r, y :: t => Nat.succ_le_succ (zipL_le r t)
section
variable {G : Str → Option AV} {F : Nat → List AV → Option Res} {N : Nat}
theorem fm_range (x : Int) {c : Int} (hc : 0 < c) : 0 ≤ x.fmod c ∧ x.fmod c < c := ⟨Int.fmod_nonneg_of_pos _ hc, Int.fmod_lt_of_pos _ hc⟩
theorem compGo_zip {elt : ME} {σ : St} (g : Int → Int → Int) (he : ∀ x y, Ae G F elt (σ ++ [some (false, .int x), some (false, .int y)]) = some (.int (g x y))) : ∀ es fs : List Int, Ey (Bc G F (.lit (.bool true))) (Ae G F elt) 2 σ (zipL (es.map .int) (fs.map .int)) = some ((zipI g es fs).map .int)
  | [], _ => rfl
  | _ :: _, [] => rfl
  | x :: r, y :: t => by
    have ih := compGo_zip g he r t
    have e : Ey (Bc G F (.lit (.bool true))) (Ae G F elt) 2 σ (zipL ((x :: r).map .int) ((y :: t).map .int)) = (match Ae G F elt (σ ++ [some (false, .int x), some (false, .int y)]) with
      | none => none
      | some z => (Ey (Bc G F (.lit (.bool true))) (Ae G F elt) 2 σ (zipL (r.map .int) (t.map .int))).map (z :: ·)) := rfl
    rw [e, he x y, ih]; rfl
theorem ev_zip {elt : ME} {σ : St} {i j : Nat} {es fs : List Int} (hi : slotR σ i = some (.ilist es)) (hj : slotR σ j = some (.ilist fs)) (hl : es.length ≤ LIM) (g : Int → Int → Int) (he : ∀ x y, Ae G F elt (σ ++ [some (false, .int x), some (false, .int y)]) = some (.int (g x y))) :
    Ae G F (.comp elt 2 (.zip (.rd i) (.rd j)) (.lit (.bool true))) σ = some (.ilist (zipI g es fs)) := by
  have hit : Et (.list (zipL (es.map .int) (fs.map .int))) = some (zipL (es.map .int) (fs.map .int)) := rfl
  rw [U9, V4, Q1, Q1, hi, hj]
  simp only [zip_items, hit]
  rw [if_pos (Nat.le_trans (zipL_le es fs) hl), compGo_zip g he, W2, Fg]
theorem ev_scale (g : Gu G) {σ : St} {n : Int} (h : slotR σ 5 = some (.int n)) : Ae G F (.idx (.glob (Str.ofString "_law_scales")) (.bin .mod (.rd 5) (.lit (.int 8)))) σ = some (.int (Fo n)) := by
  rw [U3, Q2, g.scales, Q3, Q1, h, K9]
  have h8 : ¬ (8 : Int) = 0 := by decide
  simp only [Dd, h8, if_false]
  unfold Fo
  have hr := fm_range n (c := 8) (by decide)
  generalize n.fmod 8 = z at hr
  have : z = 0 ∨ z = 1 ∨ z = 2 ∨ z = 3 ∨ z = 4 ∨ z = 5 ∨ z = 6 ∨ z = 7 := by lia
  rcases this with rfl | rfl | rfl | rfl | rfl | rfl | rfl | rfl <;> rfl
structure Jo (f : Nat) (size i j k : Int) (es cur : List Int) (m : Int) (fs other : List Int) : Prop where
  hm : m = Fo size
  hf : fs = bagL m [i.fmod 6, j.fmod 6]
  po : Fb m fs BASE f other
  pc : Fb k es BASE f cur
  len : es.length ≤ LIM
inductive StepR (f : Nat) (op size i j k : Int) (es cur : List Int) : Int → List Int → List Int → Prop where
  | mul {m : Int} {fs other got : List Int} (pre : Jo f size i j k es cur m fs other) (ho : op.fmod 5 < 2) (hg : multiply cur other = some got) (hm : Be k m = true) (pg : Fb (k * m) (zipI (· + ·) es fs) BASE f got) : StepR f op size i j k es cur (k * m) (zipI (· + ·) es fs) got
  | div {m : Int} {fs other got : List Int} (pre : Jo f size i j k es cur m fs other) (ho : ¬ op.fmod 5 < 2) (ho' : op.fmod 5 < 4) (hg : Ec cur other = some (some got)) (hd : Gs m fs k es = true) (h0 : m ≠ 0) (pg : Fb (k.fdiv m) (zipI (· - ·) es fs) BASE f got) : StepR f op size i j k es cur (k.fdiv m) (zipI (· - ·) es fs) got
  | ref {m : Int} {fs other : List Int} (pre : Jo f size i j k es cur m fs other) (ho : ¬ op.fmod 5 < 2) (ho' : op.fmod 5 < 4) (hg : Ec cur other = some none) (hd : Gs m fs k es = false) : StepR f op size i j k es cur k es cur
  | gcd {m : Int} {fs other got : List Int} (pre : Jo f size i j k es cur m fs other) (ho : ¬ op.fmod 5 < 2) (ho' : ¬ op.fmod 5 < 4) (hg : gcdP cur other = some got) (pg : Fb (Hi k m) (zipI minI es fs) BASE f got) : StepR f op size i j k es cur (Hi k m) (zipI minI es fs) got
structure Calls3 (F : Nat → List AV → Option Res) (f : Nat) : Prop where
  mul : ∀ a b r, multiply a b = some r → F 6 [.ilist a, .ilist b] = some (.val (.ilist r))
  der : ∀ a r, derivative a = some r → F 7 [.ilist a] = some (.val (.ilist r))
  val : ∀ a n v, value a n = some v → F 8 [.ilist a, .int n] = some (.val (.int v))
  com : ∀ a b r, compose a b = some r → F 9 [.ilist a, .ilist b] = some (.val (.ilist r))
  div : ∀ a b r, Ec a b = some r → F 10 [.ilist a, .ilist b] = some (exR r)
  con : ∀ a, F 11 [.ilist a] = some (.val (.int (content a)))
  pri : ∀ a r, primitive a = some r → F 12 [.ilist a] = some (.val (.ilist r))
  gcd : ∀ a b r, gcdP a b = some r → F 13 [.ilist a, .ilist b] = some (.val (.ilist r))
  sqf : ∀ a r, sqf a = some r → F 14 [.ilist a] = some (.val (.tup [.int r.1, Ak r.2]))
  roo : ∀ a low high r, Iv f a low high = some r → F 16 [.ilist a, .int low, .int high] = some (.val (.int r))
  at_ : ∀ es x v, AtR x ATOMS es 1 v → F 17 [.ilist es, .int x] = some (.val (.int v))
  pol : ∀ k es x r, Fb k es x f r → F 18 [.int k, .ilist es, .int x] = some (.val (.ilist r))
  bag : ∀ m ps, F 19 [.int m, .plist ps] = some (.val (.ilist (bagL m ps)))
  dvs : ∀ m fs k es, F 20 [.int m, .ilist fs, .int k, .ilist es] = some (.val (.bool (Gs m fs k es)))
  cmn : ∀ k m, F 21 [.int k, .int m] = some (.val (.int (Hi k m)))
  grp : ∀ es p, es.length ≤ LIM → (∀ h ∈ [(1 : Int), 2, 3, 4, 5, 6, 7, 8, 9], (es.any fun e => e == h) = true → Fb 1 (cnt1 es h) BASE f (p h)) → F 22 [.ilist es] = some (.val (Ak (Ek es p)))
  cnt : ∀ es low high, F 23 [.ilist es, .int low, .int high] = some (.val (.int (Fj low high Io es 0)))
  sam : ∀ g w, F 24 [.ilist g, .ilist w] = some (.val (.bool (g == w)))
  int : ∀ g w, F 25 [.int g, .int w] = some (.val (.bool (g == w)))
theorem f_next4 {i j p q : Nat} {v w y z : AV} {r : List AV} {σ σ' : St} {b : St → Option (Out × St)} (hb : b ((((σ.set i (some (false, v))).set j (some (false, w))).set p (some (false, y))).set q (some (false, z))) = some (.next, σ')) : Ee [i, j, p, q] b (.tup [v, w, y, z] :: r) σ = Ee [i, j, p, q] b r σ' := by
  have e : Ee [i, j, p, q] b (.tup [v, w, y, z] :: r) σ = (match b ((((σ.set i (some (false, v))).set j (some (false, w))).set p (some (false, y))).set q (some (false, z))) with
    | none => none
    | some (.next, σ') => Ee [i, j, p, q] b r σ'
    | some (.cont, σ') => Ee [i, j, p, q] b r σ'
    | some (.brk, σ') => some (.next, σ')
    | some (o, σ') => some (o, σ')) := rfl
  rw [e, hb]
theorem step_end {f : Nat} (g : Gu G) {S A B D E c15 c16 c17 c18 c19 c20 c21 c22 : Option (Bool × AV)} {k m : Int} {es cur fs other got : List Int} {rf : Bool} (C : Calls3 F f) (po : Fb m fs BASE f other) (pg : Fb k es BASE f got) :
    Ah G F N (.seq (.ite (.cmp .ne (.rd 13) (.rd 14)) (.seq (.ret (.lit (.bool false))) .skip) .skip)
      (.seq (.ite (.cmp .ne (.rd 3) (.rd 11)) (.seq (.ret (.lit (.bool false))) .skip) .skip)
      (.seq (.ite (.cmp .ne (.rd 10) (.call 18 (.cons (.var 8) (.cons (.var 9) (.cons (.glob (Str.ofString "_law_base")) .nil))))) (.seq (.ret (.lit (.bool false))) .skip) .skip)
      (.seq (.ite (.not (.call 24 (.cons (.var 12) (.cons (.call 18 (.cons (.var 1) (.cons (.var 2) (.cons (.glob (Str.ofString "_law_base")) .nil)))) .nil)))) (.seq (.ret (.lit (.bool false))) .skip) .skip)
      (.seq (.assign 3 (.var 12)) .skip)))))
      [S, some (false, .int k), some (false, .ilist es), some (false, .ilist cur), A, B, D, E, some (false, .int m), some (false, .ilist fs), some (false, .ilist other), some (false, .ilist cur), some (false, .ilist got), some (false, .bool rf), some (false, .bool rf), c15, c16, c17, c18, c19, c20, c21, c22] =
    some (.next, [S, some (false, .int k), some (false, .ilist es), some (false, .ilist got), A, B, D, E, some (false, .int m), some (false, .ilist fs), some (false, .ilist other), some (false, .ilist cur), some (false, .ilist got), some (false, .bool rf), some (false, .bool rf), c15, c16, c17, c18, c19, c20, c21, c22]) := by
  have h1 : (rf == rf) = true := by cases rf <;> rfl
  have h2 : (cur == cur) = true := beq_self_eq_true cur
  have h3 : (other == other) = true := beq_self_eq_true other
  have h4 : (got == got) = true := beq_self_eq_true got
  simp only [J0, J1, J2, J3, J4, J5, J6, J7, J8, J9, K0, K1, K2, K3, K4, K5, K6, K7, K8, K9, Q0, Q1, Q2, Q3, Q4, Q5, Q6, Q7, Q8, Q9, U0, U1, U2, U3, U4, U5, U6, U7, U8, U9, V0, V1, V2, V3, V4, V5, V6, V7, V8, V9, W0, W1, W2, W3, Cp, Co, Cu, Ct, Ch, Cq, Dm, Dl, Dz, Dw, Dy, Dx, Dk, Dc, Cs, Cg, Cn, Dn, Dd, De, Dp, Do, Dr, Ds, Dt, Du, Cv, Cw, Da, Db, Cj, Ci, Cf, Ce, Bz, Ca, Cb, Bw, Bs, Bt, Bv, Bu, Br, Bo, Bp, Bq, Dq, Cd, Bx, By, Cc, Di, Cm, Cl, Ck, Df, Dg, Dh, eq_int, eq_bool, eq_str, Ea, h1, h2, h3, h4, Bool.not_true, g.base, C.pol _ _ _ _ po, C.pol _ _ _ _ pg, C.sam]
theorem Ic {f : Nat} (g : Gu G) (C : Calls3 F f) {S c8 c9 c10 c11 c12 c13 c14 c15 c16 c17 c18 c19 c20 c21 c22 : Option (Bool × AV)} {op size i j k m : Int} {es cur fs other : List Int} (pre : Jo f size i j k es cur m fs other) {rest : MS} :
    Ah G F N (.seq (.assign 8 (.idx (.glob (Str.ofString "_law_scales")) (.bin .mod (.rd 5) (.lit (.int 8)))))
      (.seq (.assign 9 (.call 19 (.cons (.var 8) (.cons (.pl (.cons (.bin .mod (.rd 6) (.lit (.int 6))) (.cons (.bin .mod (.rd 7) (.lit (.int 6))) .nil))) .nil))))
      (.seq (.assign 10 (.call 18 (.cons (.var 8) (.cons (.var 9) (.cons (.glob (Str.ofString "_law_base")) .nil)))))
      (.seq (.assign 11 (.call 18 (.cons (.var 1) (.cons (.var 2) (.cons (.glob (Str.ofString "_law_base")) .nil)))))
      (.seq (.assign 12 (.var 3))
      (.seq (.assign 13 (.lit (.bool false)))
      (.seq (.assign 14 (.lit (.bool false))) rest)))))))
      [S, some (false, .int k), some (false, .ilist es), some (false, .ilist cur), some (false, .int op), some (false, .int size), some (false, .int i), some (false, .int j), c8, c9, c10, c11, c12, c13, c14, c15, c16, c17, c18, c19, c20, c21, c22] =
    Ah G F N rest [S, some (false, .int k), some (false, .ilist es), some (false, .ilist cur), some (false, .int op), some (false, .int size), some (false, .int i), some (false, .int j), some (false, .int m), some (false, .ilist fs), some (false, .ilist other), some (false, .ilist cur), some (false, .ilist cur), some (false, .bool false), some (false, .bool false), c15, c16, c17, c18, c19, c20, c21, c22] := by
  obtain ⟨hm, hf, po, pc, hl⟩ := pre
  have h6 : ¬ (6 : Int) = 0 := by decide
  rw [Ag (σ' := [S, some (false, .int k), some (false, .ilist es), some (false, .ilist cur), some (false, .int op), some (false, .int size), some (false, .int i), some (false, .int j), some (false, .int m), c9, c10, c11, c12, c13, c14, c15, c16, c17, c18, c19, c20, c21, c22]) (by rw [J3, ev_scale g (n := size) rfl, hm]; rfl)]
  rw [Ag (σ' := [S, some (false, .int k), some (false, .ilist es), some (false, .ilist cur), some (false, .int op), some (false, .int size), some (false, .int i), some (false, .int j), some (false, .int m), some (false, .ilist fs), c10, c11, c12, c13, c14, c15, c16, c17, c18, c19, c20, c21, c22]) (by
    have hb := C.bag m [i.fmod 6, j.fmod 6]
    rw [← hf] at hb
    have hi : Fm [.int (i.fmod 6), .int (j.fmod 6)] = some [i.fmod 6, j.fmod 6] := rfl
    simp only [J0, J1, J2, J3, J4, J5, J6, J7, J8, J9, K0, K1, K2, K3, K4, K5, K6, K7, K8, K9, Q0, Q1, Q2, Q3, Q4, Q5, Q6, Q7, Q8, Q9, U0, U1, U2, U3, U4, U5, U6, U7, U8, U9, V0, V1, V2, V3, V4, V5, V6, V7, V8, V9, W0, W1, W2, W3, Cp, Co, Cu, Ct, Ch, Cq, Dm, Dl, Dz, Dw, Dy, Dx, Dk, Dc, Cs, Cg, Cn, Dn, Dd, De, Dp, Do, Dr, Ds, Dt, Du, Cv, Cw, Da, Db, Cj, Ci, Cf, Ce, Bz, Ca, Cb, Bw, Bs, Bt, Bv, Bu, Br, Bo, Bp, Bq, Dq, Cd, Bx, By, Cc, Di, Cm, Cl, Ck, Df, Dg, Dh, h6, if_false, List.length_cons, List.length_nil, lim2, if_true, hi, hb])]
  rw [Ag (σ' := [S, some (false, .int k), some (false, .ilist es), some (false, .ilist cur), some (false, .int op), some (false, .int size), some (false, .int i), some (false, .int j), some (false, .int m), some (false, .ilist fs), some (false, .ilist other), c11, c12, c13, c14, c15, c16, c17, c18, c19, c20, c21, c22]) (by simp only [J0, J1, J2, J3, J4, J5, J6, J7, J8, J9, K0, K1, K2, K3, K4, K5, K6, K7, K8, K9, Q0, Q1, Q2, Q3, Q4, Q5, Q6, Q7, Q8, Q9, U0, U1, U2, U3, U4, U5, U6, U7, U8, U9, V0, V1, V2, V3, V4, V5, V6, V7, V8, V9, W0, W1, W2, W3, Cp, Co, Cu, Ct, Ch, Cq, Dm, Dl, Dz, Dw, Dy, Dx, Dk, Dc, Cs, Cg, Cn, Dn, Dd, De, Dp, Do, Dr, Ds, Dt, Du, Cv, Cw, Da, Db, Cj, Ci, Cf, Ce, Bz, Ca, Cb, Bw, Bs, Bt, Bv, Bu, Br, Bo, Bp, Bq, Dq, Cd, Bx, By, Cc, Di, Cm, Cl, Ck, Df, Dg, Dh, g.base, C.pol _ _ _ _ po])]
  rw [Ag (σ' := [S, some (false, .int k), some (false, .ilist es), some (false, .ilist cur), some (false, .int op), some (false, .int size), some (false, .int i), some (false, .int j), some (false, .int m), some (false, .ilist fs), some (false, .ilist other), some (false, .ilist cur), c12, c13, c14, c15, c16, c17, c18, c19, c20, c21, c22]) (by simp only [J0, J1, J2, J3, J4, J5, J6, J7, J8, J9, K0, K1, K2, K3, K4, K5, K6, K7, K8, K9, Q0, Q1, Q2, Q3, Q4, Q5, Q6, Q7, Q8, Q9, U0, U1, U2, U3, U4, U5, U6, U7, U8, U9, V0, V1, V2, V3, V4, V5, V6, V7, V8, V9, W0, W1, W2, W3, Cp, Co, Cu, Ct, Ch, Cq, Dm, Dl, Dz, Dw, Dy, Dx, Dk, Dc, Cs, Cg, Cn, Dn, Dd, De, Dp, Do, Dr, Ds, Dt, Du, Cv, Cw, Da, Db, Cj, Ci, Cf, Ce, Bz, Ca, Cb, Bw, Bs, Bt, Bv, Bu, Br, Bo, Bp, Bq, Dq, Cd, Bx, By, Cc, Di, Cm, Cl, Ck, Df, Dg, Dh, g.base, C.pol _ _ _ _ pc])]
  rfl
set_option tactic.hygienic true in
theorem step_run {f : Nat} (g : Gu G) (C : Calls3 F f) {S c15 c16 c17 c18 c19 c20 c21 c22 : Option (Bool × AV)} {op size i j k k' : Int} {es cur es' cur' : List Int} (h : StepR f op size i j k es cur k' es' cur') (c8 c9 c10 c11 c12 c13 c14 : Option (Bool × AV)) : ∃ d8 d9 d10 d11 d12 d13 d14,
    Ah G F N b26d0 [S, some (false, .int k), some (false, .ilist es), some (false, .ilist cur), some (false, .int op), some (false, .int size), some (false, .int i), some (false, .int j), c8, c9, c10, c11, c12, c13, c14, c15, c16, c17, c18, c19, c20, c21, c22] =
      some (.next, [S, some (false, .int k'), some (false, .ilist es'), some (false, .ilist cur'), some (false, .int op), some (false, .int size), some (false, .int i), some (false, .int j), d8, d9, d10, d11, d12, d13, d14, c15, c16, c17, c18, c19, c20, c21, c22]) := by
  have h5 : ¬ (5 : Int) = 0 := by decide
  simp only [b26d0]
  cases h with
  | mul pre ho hg hm pg =>
    rename_i m fs other
    refine ⟨some (false, .int m), some (false, .ilist fs), some (false, .ilist other), some (false, .ilist cur), some (false, .ilist cur'), some (false, .bool false), some (false, .bool false), ?_⟩
    rw [Ic g C pre, Ag (σ' := [S, some (false, .int (k * m)), some (false, .ilist (zipI (· + ·) es fs)), some (false, .ilist cur), some (false, .int op), some (false, .int size), some (false, .int i), some (false, .int j), some (false, .int m), some (false, .ilist fs), some (false, .ilist other), some (false, .ilist cur), some (false, .ilist cur'), some (false, .bool false), some (false, .bool false), c15, c16, c17, c18, c19, c20, c21, c22]) (by
      have hd : decide (op.fmod 5 < 2) = true := decide_eq_true ho
      rw [J8]
      have hz := ev_zip (G := G) (F := F) (elt := .bin .add (.rd 23) (.rd 24)) (i := 2) (j := 9) (σ := [S, some (false, .int (k * m)), some (false, .ilist es), some (false, .ilist cur), some (false, .int op), some (false, .int size), some (false, .int i), some (false, .int j), some (false, .int m), some (false, .ilist fs), some (false, .ilist other), some (false, .ilist cur), some (false, .ilist cur'), some (false, .bool false), some (false, .bool false), c15, c16, c17, c18, c19, c20, c21, c22]) (es := es) (fs := fs) rfl rfl pre.len (· + ·) (fun x y => rfl)
      simp only [J0, J1, J2, J3, J4, J5, J6, J7, J8, J9, K0, K1, K2, K3, K4, K5, K6, K7, K8, K9, Q0, Q1, Q2, Q3, Q4, Q5, Q6, Q7, Q8, Q9, U0, U1, U2, U3, U4, U5, U6, U7, U8, V0, V1, V2, V3, V6, V7, V8, V9, W0, W1, W2, W3, Cp, Co, Cu, Ct, Ch, Cq, Dm, Dl, Dz, Dw, Dy, Dx, Dk, Dc, Cs, Cg, Cn, Dn, Dd, De, Dp, Do, Dr, Ds, Dt, Du, Cv, Cw, Da, Db, Cj, Ci, Cf, Ce, Bz, Ca, Cb, Bw, Bs, Bt, Bv, Bu, Br, Bo, Bp, Bq, Dq, Cd, Bx, By, Cc, Di, Cm, Cl, Ck, Df, Dg, Dh, h5, if_false, hd, C.mul _ _ _ hg, hm, if_true, hz])]
    exact step_end g C pre.po pg
  | div pre ho ho' hg hd h0 pg =>
    rename_i m fs other
    refine ⟨some (false, .int m), some (false, .ilist fs), some (false, .ilist other), some (false, .ilist cur), some (false, .ilist cur'), some (false, .bool false), some (false, .bool false), ?_⟩
    rw [Ic g C pre, Ag (σ' := [S, some (false, .int (k.fdiv m)), some (false, .ilist (zipI (· - ·) es fs)), some (false, .ilist cur), some (false, .int op), some (false, .int size), some (false, .int i), some (false, .int j), some (false, .int m), some (false, .ilist fs), some (false, .ilist other), some (false, .ilist cur), some (false, .ilist cur'), some (false, .bool false), some (false, .bool false), c15, c16, c17, c18, c19, c20, c21, c22]) (by
      have hd1 : decide (op.fmod 5 < 2) = false := decide_eq_false ho
      have hd2 : decide (op.fmod 5 < 4) = true := decide_eq_true ho'
      rw [J8]
      have hz := ev_zip (G := G) (F := F) (elt := .bin .sub (.rd 23) (.rd 24)) (i := 2) (j := 9) (σ := [S, some (false, .int (k.fdiv m)), some (false, .ilist es), some (false, .ilist cur), some (false, .int op), some (false, .int size), some (false, .int i), some (false, .int j), some (false, .int m), some (false, .ilist fs), some (false, .ilist other), some (false, .ilist cur), some (false, .ilist cur'), some (false, .bool false), some (false, .bool false), c15, c16, c17, c18, c19, c20, c21, c22]) (es := es) (fs := fs) rfl rfl pre.len (· - ·) (fun x y => rfl)
      simp only [J0, J1, J2, J3, J4, J5, J6, J7, J8, J9, K0, K1, K2, K3, K4, K5, K6, K7, K8, K9, Q0, Q1, Q2, Q3, Q4, Q5, Q6, Q7, Q8, Q9, U0, U1, U2, U3, U4, U5, U6, U7, U8, V0, V1, V2, V3, V6, V7, V8, V9, W0, W1, W2, W3, Cp, Co, Cu, Ct, Ch, Cq, Dm, Dl, Dz, Dw, Dy, Dx, Dk, Dc, Cs, Cg, Cn, Dn, Dd, De, Dp, Do, Dr, Ds, Dt, Du, Cv, Cw, Da, Db, Cj, Ci, Cf, Ce, Bz, Ca, Cb, Bw, Bs, Bt, Bv, Bu, Br, Bo, Bp, Bq, Dq, Cd, Bx, By, Cc, Di, Cm, Cl, Ck, Df, Dg, Dh, h5, if_false, hd1, hd2, C.div _ _ _ hg, exR, C.dvs, hd, h0, hz])]
    exact step_end g C pre.po pg
  | ref pre ho ho' hg hd =>
    rename_i m fs other
    refine ⟨some (false, .int m), some (false, .ilist fs), some (false, .ilist other), some (false, .ilist cur), some (false, .ilist cur), some (false, .bool true), some (false, .bool true), ?_⟩
    rw [Ic g C pre, Ag (σ' := [S, some (false, .int k), some (false, .ilist es), some (false, .ilist cur), some (false, .int op), some (false, .int size), some (false, .int i), some (false, .int j), some (false, .int m), some (false, .ilist fs), some (false, .ilist other), some (false, .ilist cur), some (false, .ilist cur), some (false, .bool true), some (false, .bool true), c15, c16, c17, c18, c19, c20, c21, c22]) (by
      have hd1 : decide (op.fmod 5 < 2) = false := decide_eq_false ho
      have hd2 : decide (op.fmod 5 < 4) = true := decide_eq_true ho'
      rw [J8]
      simp only [J0, J1, J2, J3, J4, J5, J6, J7, J8, J9, K0, K1, K2, K3, K4, K5, K6, K7, K8, K9, Q0, Q1, Q2, Q3, Q4, Q5, Q6, Q7, Q8, Q9, U0, U1, U2, U3, U4, U5, U6, U7, U8, U9, V0, V1, V2, V3, V4, V5, V6, V7, V8, V9, W0, W1, W2, W3, Cp, Co, Cu, Ct, Ch, Cq, Dm, Dl, Dz, Dw, Dy, Dx, Dk, Dc, Cs, Cg, Cn, Dn, Dd, De, Dp, Do, Dr, Ds, Dt, Du, Cv, Cw, Da, Db, Cj, Ci, Cf, Ce, Bz, Ca, Cb, Bw, Bs, Bt, Bv, Bu, Br, Bo, Bp, Bq, Dq, Cd, Bx, By, Cc, Di, Cm, Cl, Ck, Df, Dg, Dh, h5, if_false, hd1, hd2, C.div _ _ _ hg, exR, C.dvs, hd])]
    exact step_end g C pre.po pre.pc
  | gcd pre ho ho' hg pg =>
    rename_i m fs other
    refine ⟨some (false, .int m), some (false, .ilist fs), some (false, .ilist other), some (false, .ilist cur), some (false, .ilist cur'), some (false, .bool false), some (false, .bool false), ?_⟩
    rw [Ic g C pre, Ag (σ' := [S, some (false, .int (Hi k m)), some (false, .ilist (zipI minI es fs)), some (false, .ilist cur), some (false, .int op), some (false, .int size), some (false, .int i), some (false, .int j), some (false, .int m), some (false, .ilist fs), some (false, .ilist other), some (false, .ilist cur), some (false, .ilist cur'), some (false, .bool false), some (false, .bool false), c15, c16, c17, c18, c19, c20, c21, c22]) (by
      have hd1 : decide (op.fmod 5 < 2) = false := decide_eq_false ho
      have hd2 : decide (op.fmod 5 < 4) = false := decide_eq_false ho'
      rw [J8]
      have hz := ev_zip (G := G) (F := F) (elt := .m2 false (.rd 23) (.rd 24)) (i := 2) (j := 9) (σ := [S, some (false, .int (Hi k m)), some (false, .ilist es), some (false, .ilist cur), some (false, .int op), some (false, .int size), some (false, .int i), some (false, .int j), some (false, .int m), some (false, .ilist fs), some (false, .ilist other), some (false, .ilist cur), some (false, .ilist cur'), some (false, .bool false), some (false, .bool false), c15, c16, c17, c18, c19, c20, c21, c22]) (es := es) (fs := fs) rfl rfl pre.len minI (fun x y => rfl)
      simp only [J0, J1, J2, J3, J4, J5, J6, J7, J8, J9, K0, K1, K2, K3, K4, K5, K6, K7, K8, K9, Q0, Q1, Q2, Q3, Q4, Q5, Q6, Q7, Q8, Q9, U0, U1, U2, U3, U4, U5, U6, U7, U8, V0, V1, V2, V3, V6, V7, V8, V9, W0, W1, W2, W3, Cp, Co, Cu, Ct, Ch, Cq, Dm, Dl, Dz, Dw, Dy, Dx, Dk, Dc, Cs, Cg, Cn, Dn, Dd, De, Dp, Do, Dr, Ds, Dt, Du, Cv, Cw, Da, Db, Cj, Ci, Cf, Ce, Bz, Ca, Cb, Bw, Bs, Bt, Bv, Bu, Br, Bo, Bp, Bq, Dq, Cd, Bx, By, Cc, Di, Cm, Cl, Ck, Df, Dg, Dh, h5, if_false, hd1, hd2, C.gcd _ _ _ hg, C.cmn, hz])]
    exact step_end g C pre.po pg
end
end Mine
end
section
open PySem
namespace Mine
set_option tactic.hygienic false
set_option autoImplicit false
theorem ok_out (l : List (List Int × Int)) : okA 59 (Ak l) = true := by
  cases l with
  | nil => rfl
  | cons p r =>
    have : ∀ q : List (List Int × Int), okAs 58 (q.map encP) = true := by
      intro q
      induction q with
      | nil => rfl
      | cons p r ih => simp only [List.map_cons, okAs, ih, Bool.and_true]; rfl
    simp only [Ak, okA, this]; rfl
theorem eq_out (k : Int) (l : List (List Int × Int)) : eqAV (.tup [.int k, Ak l]) (.tup [.int k, Ak l]) = some true := by
  have h1 : okA 60 (.tup [.int k, Ak l]) = true := by
    simp only [okA, okAs, Nat.reduceSub, ok_out, Bool.and_true]; rfl
  have h2 : eqAV (.tup [.int k, Ak l]) (.tup [.int k, Ak l]) = (if okA 60 (.tup [.int k, Ak l]) && okA 60 (.tup [.int k, Ak l]) then some (PyData.eqv (toD (.tup [.int k, Ak l])) (toD (.tup [.int k, Ak l]))) else none) := rfl
  rw [h2, h1]
  simp only [Bool.and_self, if_true, Option.some.injEq]
  exact PySem.SeqAt.eqv_refl _ (can_of _ _ h1).1
theorem items_out (l : List (List Int × Int)) : Et (Ak l) = some (l.map encP) := by cases l <;> rfl
noncomputable def Hh (g : Int → Int → Int) : Nat → List Int → List Int
  | n, x :: r => g (n : Int) x :: Hh g (n + 1) r
  | _, [] => []
theorem enumI_len (g : Int → Int → Int) : ∀ (n : Nat) (xs : List Int), (Hh g n xs).length = xs.length
  | _, [] => rfl
  | n, x :: r => congrArg (· + 1) (enumI_len g (n + 1) r)
theorem enum_items (xs : List Int) : enumop (.ilist xs) = some (.list (Hz 0 (xs.map .int))) := rfl
section
variable {G : Str → Option AV} {F : Nat → List AV → Option Res} {N : Nat}
theorem compGo_enum {elt : ME} {σ : St} (g : Int → Int → Int) : ∀ (n : Nat) (xs : List Int), (∀ i x, xs[i]? = some x → Ae G F elt (σ ++ [some (false, .int ((n + i : Nat) : Int)), some (false, .int x)]) = some (.int (g ((n + i : Nat) : Int) x))) →
    Ey (Bc G F (.lit (.bool true))) (Ae G F elt) 2 σ (Hz n (xs.map .int)) = some ((Hh g n xs).map .int)
  | _, [], _ => rfl
  | n, x :: r, he => by
    have ih := compGo_enum g (n + 1) r fun i y hy => by
      have := he (i + 1) y hy
      rw [show n + (i + 1) = n + 1 + i by lia] at this
      exact this
    have h0 := he 0 x rfl
    have e : Ey (Bc G F (.lit (.bool true))) (Ae G F elt) 2 σ (Hz n ((x :: r).map .int)) = (match Ae G F elt (σ ++ [some (false, .int ((n : Nat) : Int)), some (false, .int x)]) with
      | none => none
      | some z => (Ey (Bc G F (.lit (.bool true))) (Ae G F elt) 2 σ (Hz (n + 1) (r.map .int))).map (z :: ·)) := rfl
    rw [e]
    rw [Nat.add_zero] at h0
    rw [h0, ih]; rfl
theorem ev_enum {elt : ME} {σ : St} {i : Nat} {xs : List Int} (hi : slotR σ i = some (.ilist xs)) (hl : xs.length ≤ LIM) (g : Int → Int → Int) (he : ∀ i x, xs[i]? = some x → Ae G F elt (σ ++ [some (false, .int ((0 + i : Nat) : Int)), some (false, .int x)]) = some (.int (g ((0 + i : Nat) : Int) x))) :
    Ae G F (.comp elt 2 (.enum (.rd i)) (.lit (.bool true))) σ = some (.ilist (Hh g 0 xs)) := by
  have hit : Et (.list (Hz 0 (xs.map .int))) = some (Hz 0 (xs.map .int)) := rfl
  rw [U9, V5, Q1, hi]
  simp only [enum_items, hit]
  rw [if_pos (by rw [enumL_len, List.length_map]; exact hl), compGo_enum g 0 xs he, W2, Fg]
theorem for_parts {f : Nat} (C : Calls3 F f) {σ0 : St} (h22 : σ0.length = 22) : ∀ (l : List (List Int × Int)) (pv : Option (Bool × AV)), ∃ pv', Ee [22] (Ah G F N b26d1) (l.map encP) (σ0 ++ [pv]) = some (.next, σ0 ++ [pv'])
  | [], pv => ⟨pv, rfl⟩
  | p :: r, pv => by
    obtain ⟨pv', ih⟩ := for_parts C h22 r (some (false, encP p))
    refine ⟨pv', ?_⟩
    rw [List.map_cons, ← ih]
    have hset : ∀ y : Option (Bool × AV), (σ0 ++ [pv]).set 22 y = σ0 ++ [y] := fun y => by rw [List.set_append_right _ _ (by rw [h22]; exact Nat.le_refl _), h22]; rfl
    have hget : (σ0 ++ [some (false, encP p)])[22]? = some (some (false, encP p)) := by
      rw [List.getElem?_append_right (by rw [h22]; exact Nat.le_refl _), h22]; rfl
    refine Fq ?_
    rw [hset]
    have i0 : Az (encP p) (.int 0) = some (.ilist p.1) := rfl
    have i1 : Az (encP p) (.int 1) = some (.int p.2) := rfl
    have hty : Fw (.int p.2) = some "int" := rfl
    have hs := C.sam p.1 p.1
    rw [beq_self_eq_true] at hs
    have ht : (("int" : String) == "int") = true := rfl
    simp only [b26d1, J0, J1, J2, J3, J4, J5, J6, J7, J8, J9, K0, K1, K2, K3, K4, K5, K6, K7, K8, K9, Q0, Q1, Q2, Q3, Q4, Q5, Q6, Q7, Q8, Q9, U0, U1, U2, U3, U4, U5, U6, U7, U8, V0, V1, V2, V3, V6, V7, V8, V9, W0, W1, W2, W3, Cp, Co, Cu, Ct, Ch, Cq, Dm, Dl, Dz, Dw, Dy, Dx, Dk, Dc, Cs, Cg, Cn, Dn, Dd, De, Dp, Do, Dr, Ds, Dt, Du, Cv, Cw, Da, Db, Cj, Ci, Cf, Ce, Bz, Ca, Cb, Bw, Bs, Bt, Bv, Bu, Br, Bo, Bp, Bq, Dq, Cd, Bx, By, Cc, Di, Cm, Cl, Ck, Df, Dg, Dh, hget, i0, i1, hty, ht, hs, Bool.not_true]
noncomputable def Fn : List (List Int) := [[], [1], [-1, 1], [1, -2], [0, 1, 1]]
noncomputable def Eh (sh : List Int) : Int := sumI (Hh (fun t c => c * BASE ^ t.toNat) 0 sh)
structure LawR (f : Nat) (s0 s1 s2 s3 s4 s5 s6 s7 s8 s9 s10 s11 s12 s13 s14 s15 s16 s17 s18 s19 : Int) : Prop where
  go : ∃ (cur0 es1 cur1 es2 cur2 es3 cur es pr dr cr : List Int) (k1 k2 k av : Int) (p : Int → List Int), 
    Fb s0 (bagL s0 [s1.fmod 6, s2.fmod 6, s3.fmod 6]) BASE f cur0 ∧
    StepR f s4 s5 s6 s7 s0 (bagL s0 [s1.fmod 6, s2.fmod 6, s3.fmod 6]) cur0 k1 es1 cur1 ∧ StepR f s8 s9 s10 s11 k1 es1 cur1 k2 es2 cur2 ∧ StepR f s12 s13 s14 s15 k2 es2 cur2 k es3 cur ∧
    es = (if k = 0 then [0, 0, 0, 0, 0] else es3) ∧ es.length ≤ LIM ∧ cur.length ≤ LIM ∧
    content cur = k ∧ primitive cur = some pr ∧ Fb (if k = 0 then 0 else 1) es BASE f pr ∧
    derivative cur = some dr ∧ (∀ (i : Nat) (x : Int), cur[i]? = some x → Be (i : Int) x = true) ∧ dr = (Hh (· * ·) 0 cur).drop 1 ∧
    AtR s19 ATOMS es 1 av ∧ Be k av = true ∧ value cur s19 = some (k * av) ∧
    compose cur (Fn.getD (s18.fmod 5).toNat []) = some cr ∧ Fb k es (Eh (Fn.getD (s18.fmod 5).toNat [])) f cr ∧
    (k ≠ 0 → sqf cur = some (k, Ek es p) ∧ (∀ h ∈ [(1 : Int), 2, 3, 4, 5, 6, 7, 8, 9], (es.any fun e => e == h) = true → Fb 1 (cnt1 es h) BASE f (p h)) ∧
      Iv f cur (s16.fmod 6 - 3) (s16.fmod 6 - 3 + 1 + s17.fmod 4) = some (Fj (s16.fmod 6 - 3) (s16.fmod 6 - 3 + 1 + s17.fmod 4) Io es 0)) ∧
    Fb k es BASE f cur
theorem ev_shape (g : Gu G) {σ : St} {x : Int} (h : Ae G F (.idx (.rd 0) (.lit (.int 18))) σ = some (.int x)) : Ae G F (.idx (.glob (Str.ofString "_law_inner")) (.bin .mod (.idx (.rd 0) (.lit (.int 18))) (.lit (.int 5)))) σ = some (.ilist (Fn.getD (x.fmod 5).toNat [])) := by
  rw [U3, Q2, g.inner, Q3, h, K9]
  have h5 : ¬ (5 : Int) = 0 := by decide
  simp only [Dd, h5, if_false]
  have hr := fm_range x (c := 5) (by decide)
  generalize x.fmod 5 = z at hr
  have : z = 0 ∨ z = 1 ∨ z = 2 ∨ z = 3 ∨ z = 4 := by lia
  rcases this with rfl | rfl | rfl | rfl | rfl <;> rfl
theorem inner_len (n : Nat) : (Fn.getD n []).length ≤ 3 := by
  rcases n with _ | _ | _ | _ | _ | n
  · decide
  · decide
  · decide
  · decide
  · decide
  · rw [List.getD_eq_getElem?_getD, List.getElem?_eq_none (by simp [Fn])]; decide
theorem there_ok (n : Nat) : ∀ i x, (Fn.getD n [])[i]? = some x → Be x (BASE ^ i) = true ∧ (0 ≤ ((0 + i : Nat) : Int) ∧ (Builtin.Int.intBits BASE : Int) * ((0 + i : Nat) : Int) ≤ 2 ^ 27) := by
  intro i x h
  have hi : i < 3 := Nat.lt_of_lt_of_le (List.getElem?_eq_some_iff.mp h).1 (inner_len n)
  have hm : x ∈ ([1, -1, -2, 0] : List Int) := by
    have := List.mem_of_getElem? h
    rcases n with _ | _ | _ | _ | _ | n
    · cases this
    · revert this; simp only [Fn, List.getD_cons_succ, List.getD_cons_zero]; intro this; rcases List.mem_cons.mp this with rfl | h; · decide
      cases h
    · revert this; simp only [Fn, List.getD_cons_succ, List.getD_cons_zero]; intro this; rcases List.mem_cons.mp this with rfl | h; · decide
      rcases List.mem_cons.mp h with rfl | h; · decide
      cases h
    · revert this; simp only [Fn, List.getD_cons_succ, List.getD_cons_zero]; intro this; rcases List.mem_cons.mp this with rfl | h; · decide
      rcases List.mem_cons.mp h with rfl | h; · decide
      cases h
    · revert this; simp only [Fn, List.getD_cons_succ, List.getD_cons_zero]; intro this; rcases List.mem_cons.mp this with rfl | h; · decide
      rcases List.mem_cons.mp h with rfl | h; · decide
      rcases List.mem_cons.mp h with rfl | h; · decide
      cases h
    · rw [List.getD_eq_getElem?_getD, List.getElem?_eq_none (by simp [Fn])] at this; cases this
  have key : ∀ x ∈ ([1, -1, -2, 0] : List Int), ∀ i, i < 3 → Be x (BASE ^ i) = true ∧ (0 ≤ ((0 + i : Nat) : Int) ∧ (Builtin.Int.intBits BASE : Int) * ((0 + i : Nat) : Int) ≤ 2 ^ 27) := by decide +kernel
  exact key x hm i hi
theorem run_law3 {f : Nat} (g : Gu G) (C : Calls3 F f) {s0 s1 s2 s3 s4 s5 s6 s7 s8 s9 s10 s11 s12 s13 s14 s15 s16 s17 s18 s19 : Int} {s : List Int} (ok : LawR f s0 s1 s2 s3 s4 s5 s6 s7 s8 s9 s10 s11 s12 s13 s14 s15 s16 s17 s18 s19) :
    ∃ σ', Ah G F N b26.body [some (false, .ilist (s0 :: s1 :: s2 :: s3 :: s4 :: s5 :: s6 :: s7 :: s8 :: s9 :: s10 :: s11 :: s12 :: s13 :: s14 :: s15 :: s16 :: s17 :: s18 :: s19 :: s)), none, none, none, none, none, none, none, none, none, none, none, none, none, none, none, none, none, none, none, none, none, none] = some (.ret (.bool true), σ') := by
  obtain ⟨cur0, es1, cur1, es2, cur2, es3, cur, es, pr, dr, cr, k1, k2, k, av, p, h0, t1, t2, t3, hes, hel, hcl, hcon, hpri, ppr, hder, hmd, hdr, hat, hka, hval, hcom, pcr, hlast, pcur⟩ := ok
  have h6 : ¬ (6 : Int) = 0 := by decide
  have h4 : ¬ (4 : Int) = 0 := by decide
  have hlen : decide ((((s0 :: s1 :: s2 :: s3 :: s4 :: s5 :: s6 :: s7 :: s8 :: s9 :: s10 :: s11 :: s12 :: s13 :: s14 :: s15 :: s16 :: s17 :: s18 :: s19 :: s).length : Nat) : Int) < 20) = false := decide_eq_false (by simp only [List.length_cons]; lia)
  simp only [b26]
  rw [Ag (σ' := [some (false, .ilist (s0 :: s1 :: s2 :: s3 :: s4 :: s5 :: s6 :: s7 :: s8 :: s9 :: s10 :: s11 :: s12 :: s13 :: s14 :: s15 :: s16 :: s17 :: s18 :: s19 :: s)), none, none, none, none, none, none, none, none, none, none, none, none, none, none, none, none, none, none, none, none, none, none]) (by simp only [J0, J1, J2, J3, J4, J5, J6, J7, J8, J9, K0, K1, K2, K3, K4, K5, K6, K7, K8, K9, Q0, Q1, Q2, Q3, Q4, Q5, Q6, Q7, Q8, Q9, U0, U1, U2, U3, U4, U5, U6, U7, U8, V0, V1, V2, V3, V6, V7, V8, V9, W0, W1, W2, W3, Cp, Co, Cu, Ct, Ch, Cq, Dm, Dl, Dz, Dw, Dy, Dx, Dk, Dc, Cs, Cg, Cn, Dn, Dd, De, Dp, Do, Dr, Ds, Dt, Du, Cv, Cw, Da, Db, Cj, Ci, Cf, Ce, Bz, Ca, Cb, Bw, Bs, Bt, Bv, Bu, Br, Bo, Bp, Bq, Dq, Cd, Bx, By, Cc, Di, Cm, Cl, Ck, Df, Dg, Dh, hlen])]
  rw [Ag (σ' := [some (false, .ilist (s0 :: s1 :: s2 :: s3 :: s4 :: s5 :: s6 :: s7 :: s8 :: s9 :: s10 :: s11 :: s12 :: s13 :: s14 :: s15 :: s16 :: s17 :: s18 :: s19 :: s)), some (false, .int (s0)), none, none, none, none, none, none, none, none, none, none, none, none, none, none, none, none, none, none, none, none, none]) rfl]
  rw [Ag (σ' := [some (false, .ilist (s0 :: s1 :: s2 :: s3 :: s4 :: s5 :: s6 :: s7 :: s8 :: s9 :: s10 :: s11 :: s12 :: s13 :: s14 :: s15 :: s16 :: s17 :: s18 :: s19 :: s)), some (false, .int (s0)), some (false, .ilist (bagL s0 [s1.fmod 6, s2.fmod 6, s3.fmod 6])), none, none, none, none, none, none, none, none, none, none, none, none, none, none, none, none, none, none, none, none]) (by
    have i1 : Az (.ilist (s0 :: s1 :: s2 :: s3 :: s4 :: s5 :: s6 :: s7 :: s8 :: s9 :: s10 :: s11 :: s12 :: s13 :: s14 :: s15 :: s16 :: s17 :: s18 :: s19 :: s)) (.int 1) = some (.int s1) := rfl
    have i2 : Az (.ilist (s0 :: s1 :: s2 :: s3 :: s4 :: s5 :: s6 :: s7 :: s8 :: s9 :: s10 :: s11 :: s12 :: s13 :: s14 :: s15 :: s16 :: s17 :: s18 :: s19 :: s)) (.int 2) = some (.int s2) := rfl
    have i3 : Az (.ilist (s0 :: s1 :: s2 :: s3 :: s4 :: s5 :: s6 :: s7 :: s8 :: s9 :: s10 :: s11 :: s12 :: s13 :: s14 :: s15 :: s16 :: s17 :: s18 :: s19 :: s)) (.int 3) = some (.int s3) := rfl
    have hi : Fm [.int (s1.fmod 6), .int (s2.fmod 6), .int (s3.fmod 6)] = some [s1.fmod 6, s2.fmod 6, s3.fmod 6] := rfl
    have l3 : ([AV.int (s1.fmod 6), .int (s2.fmod 6), .int (s3.fmod 6)] : List AV).length ≤ LIM := (by decide : 3 ≤ LIM)
    simp only [J0, J1, J2, J3, J4, J5, J6, J7, J8, J9, K0, K1, K2, K3, K4, K5, K6, K7, K8, K9, Q0, Q1, Q2, Q3, Q4, Q5, Q6, Q7, Q8, Q9, U0, U1, U2, U3, U4, U5, U6, U7, U8, V0, V1, V2, V3, V6, V7, V8, V9, W0, W1, W2, W3, Cp, Co, Cu, Ct, Ch, Cq, Dm, Dl, Dz, Dw, Dy, Dx, Dk, Dc, Cs, Cg, Cn, Dn, Dd, De, Dp, Do, Dr, Ds, Dt, Du, Cv, Cw, Da, Db, Cj, Ci, Cf, Ce, Bz, Ca, Cb, Bw, Bs, Bt, Bv, Bu, Br, Bo, Bp, Bq, Dq, Cd, Bx, By, Cc, Di, Cm, Cl, Ck, Df, Dg, Dh, i1, i2, i3, h6, if_false, hi, l3, if_true, C.bag])]
  rw [Ag (σ' := [some (false, .ilist (s0 :: s1 :: s2 :: s3 :: s4 :: s5 :: s6 :: s7 :: s8 :: s9 :: s10 :: s11 :: s12 :: s13 :: s14 :: s15 :: s16 :: s17 :: s18 :: s19 :: s)), some (false, .int (s0)), some (false, .ilist (bagL s0 [s1.fmod 6, s2.fmod 6, s3.fmod 6])), some (false, .ilist (cur0)), none, none, none, none, none, none, none, none, none, none, none, none, none, none, none, none, none, none, none]) (by simp only [J0, J1, J2, J3, J4, J5, J6, J7, J8, J9, K0, K1, K2, K3, K4, K5, K6, K7, K8, K9, Q0, Q1, Q2, Q3, Q4, Q5, Q6, Q7, Q8, Q9, U0, U1, U2, U3, U4, U5, U6, U7, U8, V0, V1, V2, V3, V6, V7, V8, V9, W0, W1, W2, W3, Cp, Co, Cu, Ct, Ch, Cq, Dm, Dl, Dz, Dw, Dy, Dx, Dk, Dc, Cs, Cg, Cn, Dn, Dd, De, Dp, Do, Dr, Ds, Dt, Du, Cv, Cw, Da, Db, Cj, Ci, Cf, Ce, Bz, Ca, Cb, Bw, Bs, Bt, Bv, Bu, Br, Bo, Bp, Bq, Dq, Cd, Bx, By, Cc, Di, Cm, Cl, Ck, Df, Dg, Dh, g.base, C.pol _ _ _ _ h0])]
  obtain ⟨a8, a9, a10, a11, a12, a13, a14, r1⟩ := step_run (N := N) (S := some (false, .ilist (s0 :: s1 :: s2 :: s3 :: s4 :: s5 :: s6 :: s7 :: s8 :: s9 :: s10 :: s11 :: s12 :: s13 :: s14 :: s15 :: s16 :: s17 :: s18 :: s19 :: s))) (c15 := none) (c16 := none) (c17 := none) (c18 := none) (c19 := none) (c20 := none) (c21 := none) (c22 := none) g C t1 none none none none none none none
  obtain ⟨b8, b9, b10, b11, b12, b13, b14, r2⟩ := step_run (N := N) (S := some (false, .ilist (s0 :: s1 :: s2 :: s3 :: s4 :: s5 :: s6 :: s7 :: s8 :: s9 :: s10 :: s11 :: s12 :: s13 :: s14 :: s15 :: s16 :: s17 :: s18 :: s19 :: s))) (c15 := none) (c16 := none) (c17 := none) (c18 := none) (c19 := none) (c20 := none) (c21 := none) (c22 := none) g C t2 a8 a9 a10 a11 a12 a13 a14
  obtain ⟨d8, d9, d10, d11, d12, d13, d14, r3⟩ := step_run (N := N) (S := some (false, .ilist (s0 :: s1 :: s2 :: s3 :: s4 :: s5 :: s6 :: s7 :: s8 :: s9 :: s10 :: s11 :: s12 :: s13 :: s14 :: s15 :: s16 :: s17 :: s18 :: s19 :: s))) (c15 := none) (c16 := none) (c17 := none) (c18 := none) (c19 := none) (c20 := none) (c21 := none) (c22 := none) g C t3 b8 b9 b10 b11 b12 b13 b14
  obtain ⟨d4, e4⟩ : ∃ d4, d4 = some (false, AV.int s12) := ⟨_, rfl⟩
  obtain ⟨d5, e5⟩ : ∃ d5, d5 = some (false, AV.int s13) := ⟨_, rfl⟩
  obtain ⟨d6, e6⟩ : ∃ d6, d6 = some (false, AV.int s14) := ⟨_, rfl⟩
  obtain ⟨d7, e7⟩ : ∃ d7, d7 = some (false, AV.int s15) := ⟨_, rfl⟩
  rw [Ag (σ' := [some (false, .ilist (s0 :: s1 :: s2 :: s3 :: s4 :: s5 :: s6 :: s7 :: s8 :: s9 :: s10 :: s11 :: s12 :: s13 :: s14 :: s15 :: s16 :: s17 :: s18 :: s19 :: s)), some (false, .int (k)), some (false, .ilist (es3)), some (false, .ilist (cur)), d4, d5, d6, d7, d8, d9, d10, d11, d12, d13, d14, none, none, none, none, none, none, none, none]) (by
    have ht : Ae G F (.tup (.cons (.tup (.cons (.idx (.rd 0) (.lit (.int 4))) (.cons (.idx (.rd 0) (.lit (.int 5))) (.cons (.idx (.rd 0) (.lit (.int 6))) (.cons (.idx (.rd 0) (.lit (.int 7))) .nil))))) (.cons (.tup (.cons (.idx (.rd 0) (.lit (.int 8))) (.cons (.idx (.rd 0) (.lit (.int 9))) (.cons (.idx (.rd 0) (.lit (.int 10))) (.cons (.idx (.rd 0) (.lit (.int 11))) .nil))))) (.cons (.tup (.cons (.idx (.rd 0) (.lit (.int 12))) (.cons (.idx (.rd 0) (.lit (.int 13))) (.cons (.idx (.rd 0) (.lit (.int 14))) (.cons (.idx (.rd 0) (.lit (.int 15))) .nil))))) .nil)))) [some (false, .ilist (s0 :: s1 :: s2 :: s3 :: s4 :: s5 :: s6 :: s7 :: s8 :: s9 :: s10 :: s11 :: s12 :: s13 :: s14 :: s15 :: s16 :: s17 :: s18 :: s19 :: s)), some (false, .int (s0)), some (false, .ilist (bagL s0 [s1.fmod 6, s2.fmod 6, s3.fmod 6])), some (false, .ilist (cur0)), none, none, none, none, none, none, none, none, none, none, none, none, none, none, none, none, none, none, none] = some (.tup [.tup [.int s4, .int s5, .int s6, .int s7], .tup [.int s8, .int s9, .int s10, .int s11], .tup [.int s12, .int s13, .int s14, .int s15]]) := by
      simp only [U7, K8, K7, U3, Q1, K9, V6, V8, show Az (.ilist (s0 :: s1 :: s2 :: s3 :: s4 :: s5 :: s6 :: s7 :: s8 :: s9 :: s10 :: s11 :: s12 :: s13 :: s14 :: s15 :: s16 :: s17 :: s18 :: s19 :: s)) (.int 4) = some (.int s4) from rfl, show Az (.ilist (s0 :: s1 :: s2 :: s3 :: s4 :: s5 :: s6 :: s7 :: s8 :: s9 :: s10 :: s11 :: s12 :: s13 :: s14 :: s15 :: s16 :: s17 :: s18 :: s19 :: s)) (.int 5) = some (.int s5) from rfl, show Az (.ilist (s0 :: s1 :: s2 :: s3 :: s4 :: s5 :: s6 :: s7 :: s8 :: s9 :: s10 :: s11 :: s12 :: s13 :: s14 :: s15 :: s16 :: s17 :: s18 :: s19 :: s)) (.int 6) = some (.int s6) from rfl, show Az (.ilist (s0 :: s1 :: s2 :: s3 :: s4 :: s5 :: s6 :: s7 :: s8 :: s9 :: s10 :: s11 :: s12 :: s13 :: s14 :: s15 :: s16 :: s17 :: s18 :: s19 :: s)) (.int 7) = some (.int s7) from rfl, show Az (.ilist (s0 :: s1 :: s2 :: s3 :: s4 :: s5 :: s6 :: s7 :: s8 :: s9 :: s10 :: s11 :: s12 :: s13 :: s14 :: s15 :: s16 :: s17 :: s18 :: s19 :: s)) (.int 8) = some (.int s8) from rfl, show Az (.ilist (s0 :: s1 :: s2 :: s3 :: s4 :: s5 :: s6 :: s7 :: s8 :: s9 :: s10 :: s11 :: s12 :: s13 :: s14 :: s15 :: s16 :: s17 :: s18 :: s19 :: s)) (.int 9) = some (.int s9) from rfl, show Az (.ilist (s0 :: s1 :: s2 :: s3 :: s4 :: s5 :: s6 :: s7 :: s8 :: s9 :: s10 :: s11 :: s12 :: s13 :: s14 :: s15 :: s16 :: s17 :: s18 :: s19 :: s)) (.int 10) = some (.int s10) from rfl, show Az (.ilist (s0 :: s1 :: s2 :: s3 :: s4 :: s5 :: s6 :: s7 :: s8 :: s9 :: s10 :: s11 :: s12 :: s13 :: s14 :: s15 :: s16 :: s17 :: s18 :: s19 :: s)) (.int 11) = some (.int s11) from rfl, show Az (.ilist (s0 :: s1 :: s2 :: s3 :: s4 :: s5 :: s6 :: s7 :: s8 :: s9 :: s10 :: s11 :: s12 :: s13 :: s14 :: s15 :: s16 :: s17 :: s18 :: s19 :: s)) (.int 12) = some (.int s12) from rfl, show Az (.ilist (s0 :: s1 :: s2 :: s3 :: s4 :: s5 :: s6 :: s7 :: s8 :: s9 :: s10 :: s11 :: s12 :: s13 :: s14 :: s15 :: s16 :: s17 :: s18 :: s19 :: s)) (.int 13) = some (.int s13) from rfl, show Az (.ilist (s0 :: s1 :: s2 :: s3 :: s4 :: s5 :: s6 :: s7 :: s8 :: s9 :: s10 :: s11 :: s12 :: s13 :: s14 :: s15 :: s16 :: s17 :: s18 :: s19 :: s)) (.int 14) = some (.int s14) from rfl, show Az (.ilist (s0 :: s1 :: s2 :: s3 :: s4 :: s5 :: s6 :: s7 :: s8 :: s9 :: s10 :: s11 :: s12 :: s13 :: s14 :: s15 :: s16 :: s17 :: s18 :: s19 :: s)) (.int 15) = some (.int s15) from rfl]
      rfl
    have hit : Et (.tup [.tup [.int s4, .int s5, .int s6, .int s7], .tup [.int s8, .int s9, .int s10, .int s11], .tup [.int s12, .int s13, .int s14, .int s15]]) = some [.tup [.int s4, .int s5, .int s6, .int s7], .tup [.int s8, .int s9, .int s10, .int s11], .tup [.int s12, .int s13, .int s14, .int s15]] := rfl
    rw [K0, ht]
    simp only [hit]
    rw [f_next4 (σ' := [some (false, .ilist (s0 :: s1 :: s2 :: s3 :: s4 :: s5 :: s6 :: s7 :: s8 :: s9 :: s10 :: s11 :: s12 :: s13 :: s14 :: s15 :: s16 :: s17 :: s18 :: s19 :: s)), some (false, .int (k1)), some (false, .ilist (es1)), some (false, .ilist (cur1)), some (false, .int (s4)), some (false, .int (s5)), some (false, .int (s6)), some (false, .int (s7)), a8, a9, a10, a11, a12, a13, a14, none, none, none, none, none, none, none, none]) r1, f_next4 (σ' := [some (false, .ilist (s0 :: s1 :: s2 :: s3 :: s4 :: s5 :: s6 :: s7 :: s8 :: s9 :: s10 :: s11 :: s12 :: s13 :: s14 :: s15 :: s16 :: s17 :: s18 :: s19 :: s)), some (false, .int (k2)), some (false, .ilist (es2)), some (false, .ilist (cur2)), some (false, .int (s8)), some (false, .int (s9)), some (false, .int (s10)), some (false, .int (s11)), b8, b9, b10, b11, b12, b13, b14, none, none, none, none, none, none, none, none]) r2, f_next4 (σ' := [some (false, .ilist (s0 :: s1 :: s2 :: s3 :: s4 :: s5 :: s6 :: s7 :: s8 :: s9 :: s10 :: s11 :: s12 :: s13 :: s14 :: s15 :: s16 :: s17 :: s18 :: s19 :: s)), some (false, .int (k)), some (false, .ilist (es3)), some (false, .ilist (cur)), d4, d5, d6, d7, d8, d9, d10, d11, d12, d13, d14, none, none, none, none, none, none, none, none]) (by rw [e4, e5, e6, e7]; exact r3)]
    rfl)]
  clear r1 r2 r3 e4 e5 e6 e7 t1 t2 t3 h0
  obtain ⟨low, hlow⟩ : ∃ low, low = s16.fmod 6 - 3 := ⟨_, rfl⟩
  obtain ⟨high, hhigh⟩ : ∃ high, high = s16.fmod 6 - 3 + 1 + s17.fmod 4 := ⟨_, rfl⟩
  obtain ⟨sh, hsh⟩ : ∃ sh, sh = Fn.getD (s18.fmod 5).toNat [] := ⟨_, rfl⟩
  rw [Ag (σ' := [some (false, .ilist (s0 :: s1 :: s2 :: s3 :: s4 :: s5 :: s6 :: s7 :: s8 :: s9 :: s10 :: s11 :: s12 :: s13 :: s14 :: s15 :: s16 :: s17 :: s18 :: s19 :: s)), some (false, .int (k)), some (false, .ilist (es3)), some (false, .ilist (cur)), d4, d5, d6, d7, d8, d9, d10, d11, d12, d13, d14, some (false, .int (low)), none, none, none, none, none, none, none]) (by simp only [J0, J1, J2, J3, J4, J5, J6, J7, J8, J9, K0, K1, K2, K3, K4, K5, K6, K7, K8, K9, Q0, Q1, Q2, Q3, Q4, Q5, Q6, Q7, Q8, Q9, U0, U1, U2, U3, U4, U5, U6, U7, U8, V0, V1, V2, V3, V6, V7, V8, V9, W0, W1, W2, W3, Cp, Co, Cu, Ct, Ch, Cq, Dm, Dl, Dz, Dw, Dy, Dx, Dk, Dc, Cs, Cg, Cn, Dn, Dd, De, Dp, Do, Dr, Ds, Dt, Du, Cv, Cw, Da, Db, Cj, Ci, Cf, Ce, Bz, Ca, Cb, Bw, Bs, Bt, Bv, Bu, Br, Bo, Bp, Bq, Dq, Cd, Bx, By, Cc, Di, Cm, Cl, Ck, Df, Dg, Dh, show Az (.ilist (s0 :: s1 :: s2 :: s3 :: s4 :: s5 :: s6 :: s7 :: s8 :: s9 :: s10 :: s11 :: s12 :: s13 :: s14 :: s15 :: s16 :: s17 :: s18 :: s19 :: s)) (.int 16) = some (.int s16) from rfl, h6, if_false, hlow])]
  rw [Ag (σ' := [some (false, .ilist (s0 :: s1 :: s2 :: s3 :: s4 :: s5 :: s6 :: s7 :: s8 :: s9 :: s10 :: s11 :: s12 :: s13 :: s14 :: s15 :: s16 :: s17 :: s18 :: s19 :: s)), some (false, .int (k)), some (false, .ilist (es3)), some (false, .ilist (cur)), d4, d5, d6, d7, d8, d9, d10, d11, d12, d13, d14, some (false, .int (low)), some (false, .int (high)), none, none, none, none, none, none]) (by simp only [J0, J1, J2, J3, J4, J5, J6, J7, J8, J9, K0, K1, K2, K3, K4, K5, K6, K7, K8, K9, Q0, Q1, Q2, Q3, Q4, Q5, Q6, Q7, Q8, Q9, U0, U1, U2, U3, U4, U5, U6, U7, U8, V0, V1, V2, V3, V6, V7, V8, V9, W0, W1, W2, W3, Cp, Co, Cu, Ct, Ch, Cq, Dm, Dl, Dz, Dw, Dy, Dx, Dk, Dc, Cs, Cg, Cn, Dn, Dd, De, Dp, Do, Dr, Ds, Dt, Du, Cv, Cw, Da, Db, Cj, Ci, Cf, Ce, Bz, Ca, Cb, Bw, Bs, Bt, Bv, Bu, Br, Bo, Bp, Bq, Dq, Cd, Bx, By, Cc, Di, Cm, Cl, Ck, Df, Dg, Dh, show Az (.ilist (s0 :: s1 :: s2 :: s3 :: s4 :: s5 :: s6 :: s7 :: s8 :: s9 :: s10 :: s11 :: s12 :: s13 :: s14 :: s15 :: s16 :: s17 :: s18 :: s19 :: s)) (.int 17) = some (.int s17) from rfl, h4, if_false, hlow, hhigh])]
  rw [Ag (σ' := [some (false, .ilist (s0 :: s1 :: s2 :: s3 :: s4 :: s5 :: s6 :: s7 :: s8 :: s9 :: s10 :: s11 :: s12 :: s13 :: s14 :: s15 :: s16 :: s17 :: s18 :: s19 :: s)), some (false, .int (k)), some (false, .ilist (es3)), some (false, .ilist (cur)), d4, d5, d6, d7, d8, d9, d10, d11, d12, d13, d14, some (false, .int (low)), some (false, .int (high)), some (false, .ilist (sh)), none, none, none, none, none]) (by rw [J3, ev_shape g (x := s18) rfl, hsh]; rfl)]
  rw [Ag (σ' := [some (false, .ilist (s0 :: s1 :: s2 :: s3 :: s4 :: s5 :: s6 :: s7 :: s8 :: s9 :: s10 :: s11 :: s12 :: s13 :: s14 :: s15 :: s16 :: s17 :: s18 :: s19 :: s)), some (false, .int (k)), some (false, .ilist (es3)), some (false, .ilist (cur)), d4, d5, d6, d7, d8, d9, d10, d11, d12, d13, d14, some (false, .int (low)), some (false, .int (high)), some (false, .ilist (sh)), some (false, .ilist (sh)), none, none, none, none]) rfl]
  have hshl : sh.length ≤ LIM := by rw [hsh]; exact Nat.le_trans (inner_len _) (by decide)
  rw [Ag (σ' := [some (false, .ilist (s0 :: s1 :: s2 :: s3 :: s4 :: s5 :: s6 :: s7 :: s8 :: s9 :: s10 :: s11 :: s12 :: s13 :: s14 :: s15 :: s16 :: s17 :: s18 :: s19 :: s)), some (false, .int (k)), some (false, .ilist (es3)), some (false, .ilist (cur)), d4, d5, d6, d7, d8, d9, d10, d11, d12, d13, d14, some (false, .int (low)), some (false, .int (high)), some (false, .ilist (sh)), some (false, .ilist (sh)), some (false, .int (Eh sh)), none, none, none]) (by
    have he := ev_enum (G := G) (F := F) (elt := .bin .mul (.rd 24) (.bin .pow (.glob (Str.ofString "_law_base")) (.rd 23))) (i := 17) (σ := [some (false, .ilist (s0 :: s1 :: s2 :: s3 :: s4 :: s5 :: s6 :: s7 :: s8 :: s9 :: s10 :: s11 :: s12 :: s13 :: s14 :: s15 :: s16 :: s17 :: s18 :: s19 :: s)), some (false, .int (k)), some (false, .ilist (es3)), some (false, .ilist (cur)), d4, d5, d6, d7, d8, d9, d10, d11, d12, d13, d14, some (false, .int (low)), some (false, .int (high)), some (false, .ilist (sh)), some (false, .ilist (sh)), none, none, none, none]) (xs := sh) rfl hshl (fun t c => c * BASE ^ t.toNat) (fun i x hx => by
      rw [hsh] at hx
      obtain ⟨q1, q2⟩ := there_ok _ i x hx
      rw [Q3, Q1, Q3, Q2, g.base, Q1]
      show (match some (AV.int x), (match some (AV.int BASE), some (AV.int ((0 + i : Nat) : Int)) with | some x, some y => Ab .pow x y | _, _ => none) with | some x, some y => Ab .mul x y | _, _ => none) = _
      simp only [De]
      rw [if_pos q2]
      simp only [Dc, Int.toNat_natCast, Nat.zero_add, q1, if_true])
    rw [J3, U2, he]; rfl)]
  rw [Ag (σ' := [some (false, .ilist (s0 :: s1 :: s2 :: s3 :: s4 :: s5 :: s6 :: s7 :: s8 :: s9 :: s10 :: s11 :: s12 :: s13 :: s14 :: s15 :: s16 :: s17 :: s18 :: s19 :: s)), some (false, .int (k)), some (false, .ilist (es3)), some (false, .ilist (cur)), d4, d5, d6, d7, d8, d9, d10, d11, d12, d13, d14, some (false, .int (low)), some (false, .int (high)), some (false, .ilist (sh)), some (false, .ilist (sh)), some (false, .int (Eh sh)), some (false, .int (1)), none, none]) rfl]
  rw [Ag (σ' := [some (false, .ilist (s0 :: s1 :: s2 :: s3 :: s4 :: s5 :: s6 :: s7 :: s8 :: s9 :: s10 :: s11 :: s12 :: s13 :: s14 :: s15 :: s16 :: s17 :: s18 :: s19 :: s)), some (false, .int (k)), some (false, .ilist (es)), some (false, .ilist (cur)), d4, d5, d6, d7, d8, d9, d10, d11, d12, d13, d14, some (false, .int (low)), some (false, .int (high)), some (false, .ilist (sh)), some (false, .ilist (sh)), some (false, .int (Eh sh)), some (false, .int (if k = 0 then 0 else 1)), none, none]) (by
    by_cases hk : k = 0
    · have hb : (k == 0) = true := by rw [hk]; rfl
      rw [if_pos hk] at hes ⊢
      rw [J8, K6, Q8, Q1, K9]
      simp only [V6, V8, V9, Dp, Do, Dr, Ds, Dt, Du, Cv, Cw, Da, Db, Cj, Ci, Cf, Ce, Bz, Ca, Cb, Bw, Bs, Bt, Bv, Bu, Br, Bo, Bp, Bq, Dq, eq_int, eq_bool, eq_str, Ea, hb, W2, W3, Cp, Co, Cu, Ct, Ch, Cq]
      rw [hes]; rfl
    · have hb : (k == 0) = false := by simpa using hk
      rw [if_neg hk] at hes ⊢
      rw [hes]
      simp only [J0, J1, J2, J3, J4, J5, J6, J7, J8, J9, K0, K1, K2, K3, K4, K5, K6, K7, K8, K9, Q0, Q1, Q2, Q3, Q4, Q5, Q6, Q7, Q8, Q9, U0, U1, U2, U3, U4, U5, U6, U7, U8, V0, V1, V2, V3, V6, V7, V8, V9, W0, W1, W2, W3, Cp, Co, Cu, Ct, Ch, Cq, Dm, Dl, Dz, Dw, Dy, Dx, Dk, Dc, Cs, Cg, Cn, Dn, Dd, De, Dp, Do, Dr, Ds, Dt, Du, Cv, Cw, Da, Db, Cj, Ci, Cf, Ce, Bz, Ca, Cb, Bw, Bs, Bt, Bv, Bu, Br, Bo, Bp, Bq, Dq, Cd, Bx, By, Cc, Di, Cm, Cl, Ck, Df, Dg, Dh, eq_int, eq_bool, eq_str, Ea, hb])]
  have b1 : (k == k) = true := beq_self_eq_true k
  rw [Ag (σ' := [some (false, .ilist (s0 :: s1 :: s2 :: s3 :: s4 :: s5 :: s6 :: s7 :: s8 :: s9 :: s10 :: s11 :: s12 :: s13 :: s14 :: s15 :: s16 :: s17 :: s18 :: s19 :: s)), some (false, .int (k)), some (false, .ilist (es)), some (false, .ilist (cur)), d4, d5, d6, d7, d8, d9, d10, d11, d12, d13, d14, some (false, .int (low)), some (false, .int (high)), some (false, .ilist (sh)), some (false, .ilist (sh)), some (false, .int (Eh sh)), some (false, .int (if k = 0 then 0 else 1)), none, none]) (by simp only [J0, J1, J2, J3, J4, J5, J6, J7, J8, J9, K0, K1, K2, K3, K4, K5, K6, K7, K8, K9, Q0, Q1, Q2, Q3, Q4, Q5, Q6, Q7, Q8, Q9, U0, U1, U2, U3, U4, U5, U6, U7, U8, V0, V1, V2, V3, V6, V7, V8, V9, W0, W1, W2, W3, Cp, Co, Cu, Ct, Ch, Cq, Dm, Dl, Dz, Dw, Dy, Dx, Dk, Dc, Cs, Cg, Cn, Dn, Dd, De, Dp, Do, Dr, Ds, Dt, Du, Cv, Cw, Da, Db, Cj, Ci, Cf, Ce, Bz, Ca, Cb, Bw, Bs, Bt, Bv, Bu, Br, Bo, Bp, Bq, Dq, Cd, Bx, By, Cc, Di, Cm, Cl, Ck, Df, Dg, Dh, C.con, hcon, C.int, b1, Bool.not_true])]
  rw [Ag (σ' := [some (false, .ilist (s0 :: s1 :: s2 :: s3 :: s4 :: s5 :: s6 :: s7 :: s8 :: s9 :: s10 :: s11 :: s12 :: s13 :: s14 :: s15 :: s16 :: s17 :: s18 :: s19 :: s)), some (false, .int (k)), some (false, .ilist (es)), some (false, .ilist (cur)), d4, d5, d6, d7, d8, d9, d10, d11, d12, d13, d14, some (false, .int (low)), some (false, .int (high)), some (false, .ilist (sh)), some (false, .ilist (sh)), some (false, .int (Eh sh)), some (false, .int (if k = 0 then 0 else 1)), none, none]) (by
    have b2 : (pr == pr) = true := beq_self_eq_true pr
    simp only [J0, J1, J2, J3, J4, J5, J6, J7, J8, J9, K0, K1, K2, K3, K4, K5, K6, K7, K8, K9, Q0, Q1, Q2, Q3, Q4, Q5, Q6, Q7, Q8, Q9, U0, U1, U2, U3, U4, U5, U6, U7, U8, V0, V1, V2, V3, V6, V7, V8, V9, W0, W1, W2, W3, Cp, Co, Cu, Ct, Ch, Cq, Dm, Dl, Dz, Dw, Dy, Dx, Dk, Dc, Cs, Cg, Cn, Dn, Dd, De, Dp, Do, Dr, Ds, Dt, Du, Cv, Cw, Da, Db, Cj, Ci, Cf, Ce, Bz, Ca, Cb, Bw, Bs, Bt, Bv, Bu, Br, Bo, Bp, Bq, Dq, Cd, Bx, By, Cc, Di, Cm, Cl, Ck, Df, Dg, Dh, C.pri _ _ hpri, g.base, C.pol _ _ _ _ ppr, C.sam, b2, Bool.not_true])]
  rw [Ag (σ' := [some (false, .ilist (s0 :: s1 :: s2 :: s3 :: s4 :: s5 :: s6 :: s7 :: s8 :: s9 :: s10 :: s11 :: s12 :: s13 :: s14 :: s15 :: s16 :: s17 :: s18 :: s19 :: s)), some (false, .int (k)), some (false, .ilist (es)), some (false, .ilist (cur)), d4, d5, d6, d7, d8, d9, d10, d11, d12, d13, d14, some (false, .int (low)), some (false, .int (high)), some (false, .ilist (sh)), some (false, .ilist (sh)), some (false, .int (Eh sh)), some (false, .int (if k = 0 then 0 else 1)), none, none]) (by
    have he := ev_enum (G := G) (F := F) (elt := .bin .mul (.rd 23) (.rd 24)) (i := 3) (σ := [some (false, .ilist (s0 :: s1 :: s2 :: s3 :: s4 :: s5 :: s6 :: s7 :: s8 :: s9 :: s10 :: s11 :: s12 :: s13 :: s14 :: s15 :: s16 :: s17 :: s18 :: s19 :: s)), some (false, .int (k)), some (false, .ilist (es)), some (false, .ilist (cur)), d4, d5, d6, d7, d8, d9, d10, d11, d12, d13, d14, some (false, .int (low)), some (false, .int (high)), some (false, .ilist (sh)), some (false, .ilist (sh)), some (false, .int (Eh sh)), some (false, .int (if k = 0 then 0 else 1)), none, none]) (xs := cur) rfl hcl (fun t c => t * c) (fun i x hx => by
      have q := hmd i x hx
      rw [Q3, Q1, Q1]
      show Ab .mul (AV.int ((0 + i : Nat) : Int)) (AV.int x) = _
      rw [Nat.zero_add, Dc, if_pos q])
    have hdrop : dropop (.ilist (Hh (fun t c => t * c) 0 cur)) (.int 1) = some (.ilist dr) := by rw [hdr]; rfl
    have b2 : (dr == dr) = true := beq_self_eq_true dr
    simp only [J0, J1, J2, J3, J4, J5, J6, J7, J8, J9, K0, K1, K2, K3, K4, K5, K6, K7, K8, K9, Q0, Q1, Q2, Q3, Q4, Q5, Q6, Q7, Q8, Q9, U0, U1, U2, U3, U4, U5, U6, U7, U8, V0, V1, V2, V3, V6, V7, V8, V9, W0, W1, W2, W3, Cp, Co, Cu, Ct, Ch, Cq, Dm, Dl, Dz, Dw, Dy, Dx, Dk, Dc, Cs, Cg, Cn, Dn, Dd, De, Dp, Do, Dr, Ds, Dt, Du, Cv, Cw, Da, Db, Cj, Ci, Cf, Ce, Bz, Ca, Cb, Bw, Bs, Bt, Bv, Bu, Br, Bo, Bp, Bq, Dq, Cd, Bx, By, Cc, Di, Cm, Cl, Ck, Df, Dg, Dh, C.der _ _ hder, he, hdrop, C.sam, b2, Bool.not_true])]
  rw [Ag (σ' := [some (false, .ilist (s0 :: s1 :: s2 :: s3 :: s4 :: s5 :: s6 :: s7 :: s8 :: s9 :: s10 :: s11 :: s12 :: s13 :: s14 :: s15 :: s16 :: s17 :: s18 :: s19 :: s)), some (false, .int (k)), some (false, .ilist (es)), some (false, .ilist (cur)), d4, d5, d6, d7, d8, d9, d10, d11, d12, d13, d14, some (false, .int (low)), some (false, .int (high)), some (false, .ilist (sh)), some (false, .ilist (sh)), some (false, .int (Eh sh)), some (false, .int (if k = 0 then 0 else 1)), none, none]) (by
    have b2 : (k * av == k * av) = true := beq_self_eq_true _
    simp only [J0, J1, J2, J3, J4, J5, J6, J7, J8, J9, K0, K1, K2, K3, K4, K5, K6, K7, K8, K9, Q0, Q1, Q2, Q3, Q4, Q5, Q6, Q7, Q8, Q9, U0, U1, U2, U3, U4, U5, U6, U7, U8, V0, V1, V2, V3, V6, V7, V8, V9, W0, W1, W2, W3, Cp, Co, Cu, Ct, Ch, Cq, Dm, Dl, Dz, Dw, Dy, Dx, Dk, Dc, Cs, Cg, Cn, Dn, Dd, De, Dp, Do, Dr, Ds, Dt, Du, Cv, Cw, Da, Db, Cj, Ci, Cf, Ce, Bz, Ca, Cb, Bw, Bs, Bt, Bv, Bu, Br, Bo, Bp, Bq, Dq, Cd, Bx, By, Cc, Di, Cm, Cl, Ck, Df, Dg, Dh, show Az (.ilist (s0 :: s1 :: s2 :: s3 :: s4 :: s5 :: s6 :: s7 :: s8 :: s9 :: s10 :: s11 :: s12 :: s13 :: s14 :: s15 :: s16 :: s17 :: s18 :: s19 :: s)) (.int 19) = some (.int s19) from rfl, C.val _ _ _ hval, C.at_ _ _ _ hat, hka, if_true, C.int, b2, Bool.not_true])]
  rw [← hsh] at hcom pcr
  rw [Ag (σ' := [some (false, .ilist (s0 :: s1 :: s2 :: s3 :: s4 :: s5 :: s6 :: s7 :: s8 :: s9 :: s10 :: s11 :: s12 :: s13 :: s14 :: s15 :: s16 :: s17 :: s18 :: s19 :: s)), some (false, .int (k)), some (false, .ilist (es)), some (false, .ilist (cur)), d4, d5, d6, d7, d8, d9, d10, d11, d12, d13, d14, some (false, .int (low)), some (false, .int (high)), some (false, .ilist (sh)), some (false, .ilist (sh)), some (false, .int (Eh sh)), some (false, .int (if k = 0 then 0 else 1)), none, none]) (by
    have b2 : (cr == cr) = true := beq_self_eq_true cr
    simp only [J0, J1, J2, J3, J4, J5, J6, J7, J8, J9, K0, K1, K2, K3, K4, K5, K6, K7, K8, K9, Q0, Q1, Q2, Q3, Q4, Q5, Q6, Q7, Q8, Q9, U0, U1, U2, U3, U4, U5, U6, U7, U8, V0, V1, V2, V3, V6, V7, V8, V9, W0, W1, W2, W3, Cp, Co, Cu, Ct, Ch, Cq, Dm, Dl, Dz, Dw, Dy, Dx, Dk, Dc, Cs, Cg, Cn, Dn, Dd, De, Dp, Do, Dr, Ds, Dt, Du, Cv, Cw, Da, Db, Cj, Ci, Cf, Ce, Bz, Ca, Cb, Bw, Bs, Bt, Bv, Bu, Br, Bo, Bp, Bq, Dq, Cd, Bx, By, Cc, Di, Cm, Cl, Ck, Df, Dg, Dh, C.com _ _ _ hcom, C.pol _ _ _ _ pcr, C.sam, b2, Bool.not_true])]
  rw [Ag (σ' := [some (false, .ilist (s0 :: s1 :: s2 :: s3 :: s4 :: s5 :: s6 :: s7 :: s8 :: s9 :: s10 :: s11 :: s12 :: s13 :: s14 :: s15 :: s16 :: s17 :: s18 :: s19 :: s)), some (false, .int (k)), some (false, .ilist (es)), some (false, .ilist (cur)), d4, d5, d6, d7, d8, d9, d10, d11, d12, d13, d14, some (false, .int (low)), some (false, .int (high)), some (false, .ilist (sh)), some (false, .ilist (sh)), some (false, .int (Eh sh)), some (false, .int (if k = 0 then 0 else 1)), none, none]) (by
    have b2 : (sh == sh) = true := beq_self_eq_true sh
    simp only [J0, J1, J2, J3, J4, J5, J6, J7, J8, J9, K0, K1, K2, K3, K4, K5, K6, K7, K8, K9, Q0, Q1, Q2, Q3, Q4, Q5, Q6, Q7, Q8, Q9, U0, U1, U2, U3, U4, U5, U6, U7, U8, V0, V1, V2, V3, V6, V7, V8, V9, W0, W1, W2, W3, Cp, Co, Cu, Ct, Ch, Cq, Dm, Dl, Dz, Dw, Dy, Dx, Dk, Dc, Cs, Cg, Cn, Dn, Dd, De, Dp, Do, Dr, Ds, Dt, Du, Cv, Cw, Da, Db, Cj, Ci, Cf, Ce, Bz, Ca, Cb, Bw, Bs, Bt, Bv, Bu, Br, Bo, Bp, Bq, Dq, Cd, Bx, By, Cc, Di, Cm, Cl, Ck, Df, Dg, Dh, eq_int, eq_bool, eq_str, Ea, b2, Bool.not_true])]
  have hend : ∀ pa pb : Option (Bool × AV), ∃ σ', Ah G F N (.seq (.ite (.cmp .ne (.rd 3) (.call 18 (.cons (.var 1) (.cons (.var 2) (.cons (.glob (Str.ofString "_law_base")) .nil))))) (.seq (.ret (.lit (.bool false))) .skip) .skip) (.seq (.ret (.lit (.bool true))) .skip)) [some (false, .ilist (s0 :: s1 :: s2 :: s3 :: s4 :: s5 :: s6 :: s7 :: s8 :: s9 :: s10 :: s11 :: s12 :: s13 :: s14 :: s15 :: s16 :: s17 :: s18 :: s19 :: s)), some (false, .int (k)), some (false, .ilist (es)), some (false, .ilist (cur)), d4, d5, d6, d7, d8, d9, d10, d11, d12, d13, d14, some (false, .int (low)), some (false, .int (high)), some (false, .ilist (sh)), some (false, .ilist (sh)), some (false, .int (Eh sh)), some (false, .int (if k = 0 then 0 else 1)), pa, pb] = some (.ret (.bool true), σ') := fun pa pb => by
    have b2 : (cur == cur) = true := beq_self_eq_true cur
    refine ⟨[some (false, .ilist (s0 :: s1 :: s2 :: s3 :: s4 :: s5 :: s6 :: s7 :: s8 :: s9 :: s10 :: s11 :: s12 :: s13 :: s14 :: s15 :: s16 :: s17 :: s18 :: s19 :: s)), some (false, .int (k)), some (false, .ilist (es)), some (false, .ilist (cur)), d4, d5, d6, d7, d8, d9, d10, d11, d12, d13, d14, some (false, .int (low)), some (false, .int (high)), some (false, .ilist (sh)), some (false, .ilist (sh)), some (false, .int (Eh sh)), some (false, .int (if k = 0 then 0 else 1)), pa, pb], ?_⟩
    simp only [J0, J1, J2, J3, J4, J5, J6, J7, J8, J9, K0, K1, K2, K3, K4, K5, K6, K7, K8, K9, Q0, Q1, Q2, Q3, Q4, Q5, Q6, Q7, Q8, Q9, U0, U1, U2, U3, U4, U5, U6, U7, U8, V0, V1, V2, V3, V6, V7, V8, V9, W0, W1, W2, W3, Cp, Co, Cu, Ct, Ch, Cq, Dm, Dl, Dz, Dw, Dy, Dx, Dk, Dc, Cs, Cg, Cn, Dn, Dd, De, Dp, Do, Dr, Ds, Dt, Du, Cv, Cw, Da, Db, Cj, Ci, Cf, Ce, Bz, Ca, Cb, Bw, Bs, Bt, Bv, Bu, Br, Bo, Bp, Bq, Dq, Cd, Bx, By, Cc, Di, Cm, Cl, Ck, Df, Dg, Dh, eq_int, eq_bool, eq_str, Ea, g.base, C.pol _ _ _ _ pcur, b2, Bool.not_true]
  by_cases hk : k = 0
  · have hu : ((if k = 0 then 0 else 1 : Int) == 1) = false := by rw [if_pos hk]; rfl
    rw [Ag (σ' := [some (false, .ilist (s0 :: s1 :: s2 :: s3 :: s4 :: s5 :: s6 :: s7 :: s8 :: s9 :: s10 :: s11 :: s12 :: s13 :: s14 :: s15 :: s16 :: s17 :: s18 :: s19 :: s)), some (false, .int (k)), some (false, .ilist (es)), some (false, .ilist (cur)), d4, d5, d6, d7, d8, d9, d10, d11, d12, d13, d14, some (false, .int (low)), some (false, .int (high)), some (false, .ilist (sh)), some (false, .ilist (sh)), some (false, .int (Eh sh)), some (false, .int (if k = 0 then 0 else 1)), none, none]) (by simp only [J0, J1, J2, J3, J4, J5, J6, J7, J8, J9, K0, K1, K2, K3, K4, K5, K6, K7, K8, K9, Q0, Q1, Q2, Q3, Q4, Q5, Q6, Q7, Q8, Q9, U0, U1, U2, U3, U4, U5, U6, U7, U8, V0, V1, V2, V3, V6, V7, V8, V9, W0, W1, W2, W3, Cp, Co, Cu, Ct, Ch, Cq, Dm, Dl, Dz, Dw, Dy, Dx, Dk, Dc, Cs, Cg, Cn, Dn, Dd, De, Dp, Do, Dr, Ds, Dt, Du, Cv, Cw, Da, Db, Cj, Ci, Cf, Ce, Bz, Ca, Cb, Bw, Bs, Bt, Bv, Bu, Br, Bo, Bp, Bq, Dq, Cd, Bx, By, Cc, Di, Cm, Cl, Ck, Df, Dg, Dh, eq_int, eq_bool, eq_str, Ea, hu])]
    exact hend none none
  · have hu : ((if k = 0 then 0 else 1 : Int) == 1) = true := by rw [if_neg hk]; rfl
    obtain ⟨hsq, hp, hrr⟩ := hlast hk
    rw [← hhigh, ← hlow] at hrr
    obtain ⟨pv', hparts⟩ := for_parts (G := G) (N := N) C (σ0 := [some (false, .ilist (s0 :: s1 :: s2 :: s3 :: s4 :: s5 :: s6 :: s7 :: s8 :: s9 :: s10 :: s11 :: s12 :: s13 :: s14 :: s15 :: s16 :: s17 :: s18 :: s19 :: s)), some (false, .int (k)), some (false, .ilist (es)), some (false, .ilist (cur)), d4, d5, d6, d7, d8, d9, d10, d11, d12, d13, d14, some (false, .int (low)), some (false, .int (high)), some (false, .ilist (sh)), some (false, .ilist (sh)), some (false, .int (Eh sh)), some (false, .int (if k = 0 then 0 else 1)), some (false, .tup [.int k, Ak (Ek es p)])]) rfl (Ek es p) none
    rw [Ag (σ' := [some (false, .ilist (s0 :: s1 :: s2 :: s3 :: s4 :: s5 :: s6 :: s7 :: s8 :: s9 :: s10 :: s11 :: s12 :: s13 :: s14 :: s15 :: s16 :: s17 :: s18 :: s19 :: s)), some (false, .int (k)), some (false, .ilist (es)), some (false, .ilist (cur)), d4, d5, d6, d7, d8, d9, d10, d11, d12, d13, d14, some (false, .int (low)), some (false, .int (high)), some (false, .ilist (sh)), some (false, .ilist (sh)), some (false, .int (Eh sh)), some (false, .int (if k = 0 then 0 else 1)), some (false, .tup [.int k, Ak (Ek es p)]), pv']) (by
      have hne : Ad .ne (.tup [.int k, Ak (Ek es p)]) (.tup [.int k, Ak (Ek es p)]) = some false := by rw [Do, eq_out]; rfl
      have l2 : ([AV.int k, Ak (Ek es p)] : List AV).length ≤ LIM := (by decide : 2 ≤ LIM)
      have b2 : (Fj low high Io es 0 == Fj low high Io es 0) = true := beq_self_eq_true _
      have j0 : Az (.tup [.int k, Ak (Ek es p)]) (.int 0) = some (.int k) := rfl
      have j1 : Az (.tup [.int k, Ak (Ek es p)]) (.int 1) = some (Ak (Ek es p)) := rfl
      have hty : Fw (.int k) = some "int" := rfl
      have ht : (("int" : String) == "int") = true := rfl
      rw [J8, K6, Q8, Q1, K9]
      simp only [V6, V8, V9, Dp, eq_int, hu, W2, W3, Co]
      rw [Ag (σ' := [some (false, .ilist (s0 :: s1 :: s2 :: s3 :: s4 :: s5 :: s6 :: s7 :: s8 :: s9 :: s10 :: s11 :: s12 :: s13 :: s14 :: s15 :: s16 :: s17 :: s18 :: s19 :: s)), some (false, .int (k)), some (false, .ilist (es)), some (false, .ilist (cur)), d4, d5, d6, d7, d8, d9, d10, d11, d12, d13, d14, some (false, .int (low)), some (false, .int (high)), some (false, .ilist (sh)), some (false, .ilist (sh)), some (false, .int (Eh sh)), some (false, .int (if k = 0 then 0 else 1)), some (false, .tup [.int k, Ak (Ek es p)]), none]) (by simp only [J0, J1, J2, J3, J4, J5, J6, J7, J8, J9, K0, K1, K2, K3, K4, K5, K6, K7, K8, K9, Q0, Q1, Q2, Q3, Q4, Q5, Q6, Q7, Q8, Q9, U0, U1, U2, U3, U4, U5, U6, U7, U8, V0, V1, V2, V3, V6, V7, V8, V9, W0, W1, W2, W3, Cp, Co, Cu, Ct, Ch, Cq, Dm, Dl, Dz, Dw, Dy, Dx, Dk, Dc, Cs, Cg, Cn, Dn, Dd, De, Dp, Do, Dr, Ds, Dt, Du, Cv, Cw, Da, Db, Cj, Ci, Cf, Ce, Bz, Ca, Cb, Bw, Bs, Bt, Bv, Bu, Br, Bo, Bp, Bq, Dq, Cd, Bx, By, Cc, Di, Cm, Cl, Ck, Df, Dg, Dh, C.sqf _ _ hsq])]
      rw [Ag (σ' := [some (false, .ilist (s0 :: s1 :: s2 :: s3 :: s4 :: s5 :: s6 :: s7 :: s8 :: s9 :: s10 :: s11 :: s12 :: s13 :: s14 :: s15 :: s16 :: s17 :: s18 :: s19 :: s)), some (false, .int (k)), some (false, .ilist (es)), some (false, .ilist (cur)), d4, d5, d6, d7, d8, d9, d10, d11, d12, d13, d14, some (false, .int (low)), some (false, .int (high)), some (false, .ilist (sh)), some (false, .ilist (sh)), some (false, .int (Eh sh)), some (false, .int (if k = 0 then 0 else 1)), some (false, .tup [.int k, Ak (Ek es p)]), none]) (by simp only [J8, J0, K6, Q8, U7, K8, K7, U1, Q0, Q1, V6, V7, V8, V9, C.grp _ _ hel hp, l2, if_true, hne, W2, W3, Co])]
      rw [Ag (σ' := [some (false, .ilist (s0 :: s1 :: s2 :: s3 :: s4 :: s5 :: s6 :: s7 :: s8 :: s9 :: s10 :: s11 :: s12 :: s13 :: s14 :: s15 :: s16 :: s17 :: s18 :: s19 :: s)), some (false, .int (k)), some (false, .ilist (es)), some (false, .ilist (cur)), d4, d5, d6, d7, d8, d9, d10, d11, d12, d13, d14, some (false, .int (low)), some (false, .int (high)), some (false, .ilist (sh)), some (false, .ilist (sh)), some (false, .int (Eh sh)), some (false, .int (if k = 0 then 0 else 1)), some (false, .tup [.int k, Ak (Ek es p)]), none]) (by simp only [J0, J1, J2, J3, J4, J5, J6, J7, J8, J9, K0, K1, K2, K3, K4, K5, K6, K7, K8, K9, Q0, Q1, Q2, Q3, Q4, Q5, Q6, Q7, Q8, Q9, U0, U1, U2, U3, U4, U5, U6, U7, U8, V0, V1, V2, V3, V6, V7, V8, V9, W0, W1, W2, W3, Cp, Co, Cu, Ct, Ch, Cq, Dm, Dl, Dz, Dw, Dy, Dx, Dk, Dc, Cs, Cg, Cn, Dn, Dd, De, Dp, Do, Dr, Ds, Dt, Du, Cv, Cw, Da, Db, Cj, Ci, Cf, Ce, Bz, Ca, Cb, Bw, Bs, Bt, Bv, Bu, Br, Bo, Bp, Bq, Dq, Cd, Bx, By, Cc, Di, Cm, Cl, Ck, Df, Dg, Dh, j0, hty, ht, Bool.not_true])]
      rw [Ag (σ' := [some (false, .ilist (s0 :: s1 :: s2 :: s3 :: s4 :: s5 :: s6 :: s7 :: s8 :: s9 :: s10 :: s11 :: s12 :: s13 :: s14 :: s15 :: s16 :: s17 :: s18 :: s19 :: s)), some (false, .int (k)), some (false, .ilist (es)), some (false, .ilist (cur)), d4, d5, d6, d7, d8, d9, d10, d11, d12, d13, d14, some (false, .int (low)), some (false, .int (high)), some (false, .ilist (sh)), some (false, .ilist (sh)), some (false, .int (Eh sh)), some (false, .int (if k = 0 then 0 else 1)), some (false, .tup [.int k, Ak (Ek es p)]), pv']) (by
        rw [K0, U3, Q1, K9]
        simp only [V6, V8, V9, j1, items_out]
        exact hparts)]
      simp only [J0, J1, J2, J3, J4, J5, J6, J7, J8, J9, K0, K1, K2, K3, K4, K5, K6, K7, K8, K9, Q0, Q1, Q2, Q3, Q4, Q5, Q6, Q7, Q8, Q9, U0, U1, U2, U3, U4, U5, U6, U7, U8, V0, V1, V2, V3, V6, V7, V8, V9, W0, W1, W2, W3, Cp, Co, Cu, Ct, Ch, Cq, Dm, Dl, Dz, Dw, Dy, Dx, Dk, Dc, Cs, Cg, Cn, Dn, Dd, De, Dp, Do, Dr, Ds, Dt, Du, Cv, Cw, Da, Db, Cj, Ci, Cf, Ce, Bz, Ca, Cb, Bw, Bs, Bt, Bv, Bu, Br, Bo, Bp, Bq, Dq, Cd, Bx, By, Cc, Di, Cm, Cl, Ck, Df, Dg, Dh, C.roo _ _ _ _ hrr, C.cnt, C.int, b2, Bool.not_true])]
    exact hend _ _
end
end Mine
end
section
open PySem
namespace Mine
set_option tactic.hygienic false
set_option autoImplicit false
noncomputable def Il : AV → Nat
  | .int i => i.natAbs + 3
  | .str s => s.length + 3
  | .ilist l => l.length + 3
  | .list l => l.length + 3
  | .tup l => l.length + 3
  | .plist l => l.length + 3
  | _ => 3
noncomputable def Ie (args : List AV) : Nat := 100 + (args.map Il).sum
noncomputable def runG (G : Str → Option AV) (fs : List (Option MF)) : Nat → Nat → List AV → Option Res
  | 0, _, _ => none
  | k + 1, f, args => match fs[f]? with
    | some (some mf) => if args.length = mf.nargs then (match Ah G (runG G fs k) (Ie args) mf.body (initS mf args) with
      | some (o, _) => Iw o
      | none => none) else none
    | _ => none
theorem fnv_cg {c : Cx} {g : Nat → List AV → Option Res} {f : Nat} {ps : List Str} {body : List Stmt} {sc : Scope} (h : FnV c f ps body sc) : FnV { c with F := g } f ps body sc := by
  obtain ⟨o, fd, h1, h2, h3, h4, h5, h6, h7, h8, h9⟩ := h
  exact ⟨o, fd, h1, h2, h3, h4, h5, h6, h7, h8, h9⟩
set_option tactic.hygienic true in
theorem run_okG {c : Cx} {fs : List (Option MF)} (ok : c.Ok) (ft : FnTab c fs) : ∀ (k f : Nat) (args : List AV) (r : Res), runG c.G fs k f args = some r → FnOk c k f args r
  | 0, f, args, r, h => by simp [runG] at h
  | k + 1, f, args, r, h => by
    simp only [runG] at h
    split at h
    · rename_i mf hm
      split at h
      · rename_i hl
        split at h
        · rename_i o σ' hrun
          obtain ⟨ps, mu, ap, as, body, sc, fi, hps, hnd, hc, hrf⟩ := ft.fn f mf hm
          have ih := run_okG ok ft k
          have fi' : FnIs { c with F := runG c.G fs k } f ps body sc := ⟨fnv_cg fi.is, fi.gen, fi.cor⟩
          exact FnOk.cg' (fn_run (c := { c with F := runG c.G fs k }) (ok.cg) (fun f' args' r' h' => (ih f' args' r' h').cg) fi' hps hnd rfl hc hrf hl hrun h)
        · cases h
      · cases h
    · cases h
set_option tactic.hygienic true in
theorem run_topG {c : Cx} {fs : List (Option MF)} (ok : c.Ok) (ft : FnTab c fs) {k f : Nat} {args : List AV} {r : Res} (h : runG c.G fs k f args = some r) : FnOkW c k f args r := by
  cases k with
  | zero => simp [runG] at h
  | succ k =>
    simp only [runG] at h
    split at h
    · rename_i mf hm
      split at h
      · rename_i hl
        split at h
        · rename_i o σ' hrun
          obtain ⟨ps, mu, ap, as, body, sc, fi, hps, hnd, hc, hrf⟩ := ft.fn f mf hm
          have ih := run_okG ok ft k
          have fi' : FnIs { c with F := runG c.G fs k } f ps body sc := ⟨fnv_cg fi.is, fi.gen, fi.cor⟩
          exact FnOkW.cg' (fn_runW (c := { c with F := runG c.G fs k }) (ok.cg) (fun f' args' r' h' => (ih f' args' r' h').cg) fi' hps hnd rfl hc hrf hl hrun h)
        · cases h
      · cases h
    · cases h
noncomputable def fs3 : List (Option MF) := [some b0, some b1, some b2, some b3, some b4, some b5, some b6, some b7, some b8, some b9, some b10, some b11, some b12, some b13, some b14, some b15, some b16, some b17, some b18, some b19, some b20, some b21, some b22, some b23, some b24, some b25, some b26]
section
variable {G : Str → Option AV}
theorem Bb {k f : Nat} {args : List AV} {mf : MF} {v : AV} (hf : fs3[f]? = some (some mf)) (ha : args.length = mf.nargs) (h : ∃ σ', Ah G (runG G fs3 k) (Ie args) mf.body (initS mf args) = some (.ret v, σ')) : runG G fs3 (k + 1) f args = some (.val v) := by
  obtain ⟨σ', h⟩ := h
  simp only [runG, hf, ha, if_true, h, Iw]
theorem run_any {k f : Nat} {args : List AV} {mf : MF} {r : Res} (hf : fs3[f]? = some (some mf)) (ha : args.length = mf.nargs) (h : ∃ o σ', Ah G (runG G fs3 k) (Ie args) mf.body (initS mf args) = some (o, σ') ∧ Iw o = some r) : runG G fs3 (k + 1) f args = some r := by
  obtain ⟨o, σ', h, hr⟩ := h
  simp only [runG, hf, ha, if_true, h, hr]
theorem fuel1 (a : AV) : Ie [a] = 100 + Il a := by simp [Ie]
theorem fuel2 (a b : AV) : Ie [a, b] = 100 + (Il a + Il b) := by simp [Ie]
theorem fuelC (l : List AV) : 100 ≤ Ie l := Nat.le_add_right _ _
theorem S0 (k : Nat) : ∀ a, runG G fs3 (k + 1) 0 [.ilist a] = some (.val (.ilist (trim a))) := fun a =>
  Bb rfl rfl ⟨_, run_trim a _ (by rw [fuel1]; simp only [Il]; lia)⟩
theorem S1 (k : Nat) : ∀ x y, runG G fs3 (k + 1) 1 [.int x, .int y] = some (.val (.int (Int.gcd x y))) := fun x y =>
  Bb rfl rfl (run_gcd x y _ (by rw [fuel2]; simp only [Il]; lia))
theorem S2 (k : Nat) : ∀ a b r, exdiv a b = some r → runG G fs3 (k + 2) 2 [.ilist a, .ilist b] = some (.val (exV r)) := fun a b r h =>
  Bb rfl rfl (by
    obtain ⟨σ', hσ⟩ := run_exdiv (G := G) (N := Ie [.ilist a, .ilist b]) (S0 (G := G) k) a b r h (by rw [fuel2]; simp only [Il]; lia)
    refine ⟨σ', ?_⟩
    cases r <;> exact hσ)
theorem S3 (k : Nat) : ∀ x y r, Ev x y = some r → runG G fs3 (k + 2) 3 [.ilist x, .ilist y] = some (.val (.ilist r)) := fun x y r h =>
  Bb rfl rfl (run_posrem (S0 (G := G) k) x y r h (by rw [fuel2]; simp only [Il]; lia))
theorem S4 (k : Nat) : ∀ z r, Es z = some r → runG G fs3 (k + 2) 4 [.ilist z] = some (.val (.ilist r)) := fun z r h =>
  Bb rfl rfl (run_shrink (S1 (G := G) k) z r h)
theorem S5 (k : Nat) : ∀ a b : List Int, a.length ≤ LIM → b.length ≤ LIM → runG G fs3 (k + 2) 5 [.ilist a, .ilist b] = some (.val (.ilist (addP a b))) := fun a b ha hb =>
  Bb rfl rfl (run_addp (S0 (G := G) k) ha hb)
theorem S6 (k : Nat) : ∀ a b r, multiply a b = some r → runG G fs3 (k + 2) 6 [.ilist a, .ilist b] = some (.val (.ilist r)) := fun a b r h =>
  Bb rfl rfl (run_multiply (S0 (G := G) k) a b r h)
theorem S7 (k : Nat) : ∀ a r, derivative a = some r → runG G fs3 (k + 2) 7 [.ilist a] = some (.val (.ilist r)) := fun a r h =>
  Bb rfl rfl (run_derivative (S0 (G := G) k) a r h)
theorem S8 (k : Nat) : ∀ a n v, value a n = some v → runG G fs3 (k + 1) 8 [.ilist a, .int n] = some (.val (.int v)) := fun a n v h =>
  Bb rfl rfl (run_value a n v h (by rw [fuel2]; simp only [Il]; lia))
theorem S9 (k : Nat) : ∀ a b r, compose a b = some r → runG G fs3 (k + 3) 9 [.ilist a, .ilist b] = some (.val (.ilist r)) := fun a b r h =>
  Bb rfl rfl (run_compose (S5 (G := G) k) (S6 (G := G) k) h (by rw [fuel2]; simp only [Il]; lia))
theorem S10 (k : Nat) : ∀ a b r, Ec a b = some r → runG G fs3 (k + 3) 10 [.ilist a, .ilist b] = some (exR r) := fun a b r h =>
  run_any rfl rfl (run_divide (S2 (G := G) k) a b r h)
theorem S11 (k : Nat) : ∀ a, runG G fs3 (k + 2) 11 [.ilist a] = some (.val (.int (content a))) := fun a =>
  Bb rfl rfl (run_content (S1 (G := G) k) a)
theorem S12 (k : Nat) : ∀ a r, primitive a = some r → runG G fs3 (k + 3) 12 [.ilist a] = some (.val (.ilist r)) := fun a r h =>
  Bb rfl rfl (run_primitive (S11 (G := G) k) a r h)
theorem S13 (k : Nat) : ∀ a b r, gcdP a b = some r → runG G fs3 (k + 4) 13 [.ilist a, .ilist b] = some (.val (.ilist r)) := fun a b r h =>
  Bb rfl rfl (run_gcdP (S1 (G := G) (k + 2)) (S3 (G := G) (k + 1)) (S4 (G := G) (k + 1)) (S11 (G := G) (k + 1)) (S12 (G := G) k) a b r h (by rw [fuel2]; simp only [Il]; lia))
theorem S14 (k : Nat) : ∀ a r, sqf a = some r → runG G fs3 (k + 5) 14 [.ilist a] = some (.val (.tup [.int r.1, Ak r.2])) := fun a r h =>
  Bb rfl rfl (run_sqf (S7 (G := G) (k + 2)) (fun a b q h => S10 (G := G) (k + 1) a b (some q) h) (S11 (G := G) (k + 2)) (S12 (G := G) (k + 1)) (S13 (G := G) k) a r h (by rw [fuel1]; simp only [Il]; lia))
theorem S15 (k : Nat) : ∀ (L : List (List Int)) x r, Gg L x = some r → runG G fs3 (k + 2) 15 [.list (L.map .ilist), .int x] = some (.val (.int r)) := fun L x r h =>
  Bb rfl rfl (run_sign (S8 (G := G) k) h)
theorem S16 (k : Nat) {f : Nat} (hf : f ≤ 100) : ∀ a low high r, Iv f a low high = some r → runG G fs3 (k + 5) 16 [.ilist a, .int low, .int high] = some (.val (.int r)) := fun a low high r h =>
  Bb rfl rfl (run_rroots (S3 (G := G) (k + 2)) (S4 (G := G) (k + 2)) (S7 (G := G) (k + 2)) (fun a b q h => S10 (G := G) (k + 1) a b (some q) h) (S12 (G := G) (k + 1)) (S13 (G := G) k) (S15 (G := G) (k + 2)) h (Nat.le_trans hf (fuelC _)))
theorem S17 (g : Gu G) (k : Nat) : ∀ es x v, AtR x ATOMS es 1 v → runG G fs3 (k + 1) 17 [.ilist es, .int x] = some (.val (.int v)) := fun es x v h =>
  Bb rfl rfl (run_at g h)
theorem S18 (g : Gu G) (k : Nat) {f : Nat} (hf : f ≤ 100) : ∀ c es x r, Fb c es x f r → runG G fs3 (k + 2) 18 [.int c, .ilist es, .int x] = some (.val (.ilist r)) := fun c es x r h =>
  Bb rfl rfl (run_poly g (S17 g k) h (Nat.le_trans hf (fuelC _)))
theorem calls3 (g : Gu G) (k : Nat) {f : Nat} (hf : f ≤ 100) : Calls3 (runG G fs3 (k + 5)) f where
  mul := S6 (k + 3)
  der := S7 (k + 3)
  val := S8 (k + 4)
  com := S9 (k + 2)
  div := S10 (k + 2)
  con := S11 (k + 3)
  pri := S12 (k + 2)
  gcd := S13 (k + 1)
  sqf := S14 k
  roo := S16 k hf
  at_ := S17 g (k + 4)
  pol := S18 g (k + 3) hf
  bag := fun m ps => Bb rfl rfl ⟨_, run_bag m ps⟩
  dvs := fun m fs c es => Bb rfl rfl (run_divides m fs c es)
  cmn := fun c m => Bb rfl rfl (run_common c m)
  grp := fun es p hl hp => Bb rfl rfl (run_groups g (S18 g (k + 2) hf) hl hp)
  cnt := fun es low high => Bb rfl rfl (run_count g es low high)
  sam := fun a w => Bb rfl rfl (run_same a w)
  int := fun a w => Bb rfl rfl ⟨_, run_int a w⟩
theorem S26 (g : Gu G) (k : Nat) {f : Nat} (hf : f ≤ 100) {s0 s1 s2 s3 s4 s5 s6 s7 s8 s9 s10 s11 s12 s13 s14 s15 s16 s17 s18 s19 : Int} (s : List Int) (ok : LawR f s0 s1 s2 s3 s4 s5 s6 s7 s8 s9 s10 s11 s12 s13 s14 s15 s16 s17 s18 s19) :
    runG G fs3 (k + 6) 26 [.ilist (s0 :: s1 :: s2 :: s3 :: s4 :: s5 :: s6 :: s7 :: s8 :: s9 :: s10 :: s11 :: s12 :: s13 :: s14 :: s15 :: s16 :: s17 :: s18 :: s19 :: s)] = some (.val (.bool true)) :=
  Bb rfl rfl (run_law3 g (calls3 g k hf) ok)
theorem run_short {F : Nat → List AV → Option Res} {N : Nat} {s : List Int} (h : s.length < 20) {c1 c2 c3 c4 c5 c6 c7 c8 c9 c10 c11 c12 c13 c14 c15 c16 c17 c18 c19 c20 c21 c22 : Option (Bool × AV)} : ∃ σ', Ah G F N b26.body [some (false, .ilist s), c1, c2, c3, c4, c5, c6, c7, c8, c9, c10, c11, c12, c13, c14, c15, c16, c17, c18, c19, c20, c21, c22] = some (.ret (.bool true), σ') :=
  ⟨[some (false, .ilist s), c1, c2, c3, c4, c5, c6, c7, c8, c9, c10, c11, c12, c13, c14, c15, c16, c17, c18, c19, c20, c21, c22], Ho (by
    have hd : decide ((s.length : Int) < 20) = true := decide_eq_true (Int.ofNat_lt.mpr h)
    simp only [J0, J1, J2, J3, J4, J5, J6, J7, J8, J9, K0, K1, K2, K3, K4, K5, K6, K7, K8, K9, Q0, Q1, Q2, Q3, Q4, Q5, Q6, Q7, Q8, Q9, U0, U1, U2, U3, U4, U5, U6, U7, U8, V0, V1, V2, V3, V6, V7, V8, V9, W0, W1, W2, W3, Cp, Co, Cu, Ct, Ch, Cq, Dm, Dl, Dz, Dw, Dy, Dx, Dk, Dc, Cs, Cg, Cn, Dn, Dd, De, Dp, Do, Dr, Ds, Dt, Du, Cv, Cw, Da, Db, Cj, Ci, Cf, Ce, Bz, Ca, Cb, Bw, Bs, Bt, Bv, Bu, Br, Bo, Bp, Bq, Dq, Cd, Bx, By, Cc, Di, Cm, Cl, Ck, Df, Dg, Dh, hd])⟩
theorem S26s (k : Nat) {s : List Int} (h : s.length < 20) : runG G fs3 (k + 1) 26 [.ilist s] = some (.val (.bool true)) :=
  Bb rfl rfl (run_short h)
end
end Mine
end
section
open PySem
namespace Mine
set_option tactic.hygienic false
set_option autoImplicit false
noncomputable def Ay (a : List Int) : Prop := ∀ x, a.getLast? = some x → x ≠ 0
noncomputable def co (a : List Int) (n : Nat) : Int := a.getD n 0
noncomputable def ev : List Int → Int → Int
  | [], _ => 0
  | c :: r, x => c + x * ev r x
noncomputable def n1 : List Int → Nat
  | [] => 0
  | c :: r => c.natAbs + n1 r
noncomputable def pa : List Int → List Int → List Int
  | [], b => b
  | x :: r, [] => x :: r
  | x :: r, y :: t => (x + y) :: pa r t
noncomputable def pm : List Int → List Int → List Int
  | [], _ => []
  | x :: r, b => pa (b.map (x * ·)) (0 :: pm r b)
noncomputable def sh (s : Nat) (b : List Int) : List Int := match s with
  | 0 => b
  | s + 1 => 0 :: sh s b
theorem co_nil (n : Nat) : co [] n = 0 := rfl
theorem co_succ (a : List Int) (n : Nat) : co a (n + 1) = co a.tail n := by cases a <;> rfl
theorem co_ge {a : List Int} {n : Nat} (h : a.length ≤ n) : co a n = 0 := by
  unfold co; rw [List.getD_eq_getElem?_getD, List.getElem?_eq_none h]; rfl
theorem Fp {a : List Int} {n : Nat} (h : n < a.length) : a[n]? = some (co a n) := by
  unfold co; rw [List.getD_eq_getElem?_getD, List.getElem?_eq_getElem h]; rfl
theorem co_mem {a : List Int} {n : Nat} (h : n < a.length) : co a n ∈ a := List.mem_of_getElem? (Fp h)
theorem co_set {a : List Int} {n : Nat} (v : Int) (k : Nat) (h : k ≠ n) : co (a.set n v) k = co a k := by
  unfold co
  rw [List.getD_eq_getElem?_getD, List.getElem?_set_ne (Ne.symm h), List.getD_eq_getElem?_getD]
theorem co_pa : ∀ (a b : List Int) (n : Nat), co (pa a b) n = co a n + co b n
  | [], b, n => (Int.zero_add _).symm
  | x :: r, [], n => (Int.add_zero _).symm
  | x :: r, y :: t, 0 => rfl
  | x :: r, y :: t, n + 1 => co_pa r t n
theorem Ii (k : Int) : ∀ (a : List Int) (n : Nat), co (a.map (k * ·)) n = k * co a n
  | [], n => (Int.mul_zero k).symm
  | x :: r, 0 => rfl
  | x :: r, n + 1 => Ii k r n
theorem ev_eta (a : List Int) (x : Int) : ev a x = co a 0 + x * ev a.tail x := by
  cases a
  · exact (Int.mul_zero x).symm.trans (Int.zero_add _).symm
  · rfl
theorem Fv (x : Int) : ∀ a b : List Int, ev (pa a b) x = ev a x + ev b x
  | [], b => (Int.zero_add _).symm
  | c :: r, [] => (Int.add_zero _).symm
  | c :: r, d :: t => by
    show c + d + x * ev (pa r t) x = (c + x * ev r x) + (d + x * ev t x)
    rw [Fv x r t, Int.mul_add, Int.add_assoc, Int.add_assoc, Int.add_left_comm d]
theorem Ed (k x : Int) : ∀ a : List Int, ev (a.map (k * ·)) x = k * ev a x
  | [] => (Int.mul_zero k).symm
  | c :: r => by
    show k * c + x * ev (r.map (k * ·)) x = k * (c + x * ev r x)
    rw [Ed k x r, Int.mul_add, Int.mul_left_comm]
theorem Fd (x : Int) (b : List Int) : ∀ a : List Int, ev (pm a b) x = ev a x * ev b x
  | [] => (Int.zero_mul _).symm
  | c :: r => by
    show ev (pa (b.map (c * ·)) (0 :: pm r b)) x = (c + x * ev r x) * ev b x
    rw [Fv, Ed]
    show c * ev b x + (0 + x * ev (pm r b) x) = _
    rw [Fd x b r, Int.zero_add, Int.add_mul, Int.mul_assoc]
theorem ev_sh (x : Int) (b : List Int) : ∀ s : Nat, ev (sh s b) x = x ^ s * ev b x
  | 0 => by rw [Int.pow_zero, Int.one_mul]; rfl
  | s + 1 => by
    show 0 + x * ev (sh s b) x = _
    rw [ev_sh x b s, Int.zero_add, Int.pow_succ, Int.mul_comm (x ^ s) x, Int.mul_assoc]
theorem co0_of {a b : List Int} (h : ∀ x, 0 < x → ev a x = ev b x) : co a 0 = co b 0 := by
  have h1 := h ((co a 0 - co b 0).natAbs + 1) (by lia)
  rw [ev_eta a, ev_eta b] at h1
  generalize hx : ((co a 0 - co b 0).natAbs : Int) + 1 = x at h1
  have h2 : x ∣ co a 0 - co b 0 := ⟨ev b.tail x - ev a.tail x, by rw [Int.mul_sub]; lia⟩
  have h3 := Int.eq_zero_of_dvd_of_natAbs_lt_natAbs h2 (by lia)
  lia
theorem co_of : ∀ (n : Nat) {a b : List Int}, (∀ x, 0 < x → ev a x = ev b x) → co a n = co b n
  | 0, _, _, h => co0_of h
  | n + 1, a, b, h => by
    rw [co_succ, co_succ]
    refine co_of n fun x hx => ?_
    have h1 := h x hx
    rw [ev_eta a, ev_eta b, co0_of h] at h1
    exact Int.eq_of_mul_eq_mul_left (Int.ne_of_gt hx) (Int.add_left_cancel h1)
theorem ev_of (x : Int) : ∀ (N : Nat) (a b : List Int), a.length ≤ N → b.length ≤ N → (∀ n, co a n = co b n) → ev a x = ev b x
  | 0, a, b, ha, hb, _ => by rw [List.length_eq_zero_iff.mp (Nat.le_zero.mp ha), List.length_eq_zero_iff.mp (Nat.le_zero.mp hb)]
  | N + 1, a, b, ha, hb, h => by
    rw [ev_eta a, ev_eta b, h 0, ev_of x N a.tail b.tail (by rw [List.length_tail]; lia) (by rw [List.length_tail]; lia) fun n => by rw [← co_succ, ← co_succ, h]]
theorem ev_co {a b : List Int} (h : ∀ n, co a n = co b n) (x : Int) : ev a x = ev b x :=
  ev_of x _ a b (Nat.le_max_left _ _) (Nat.le_max_right _ _) h
theorem Ji {a : List Int} (h : a ≠ []) : ∃ t, a.length = t + 1 := ⟨a.length - 1, (Nat.sub_add_cancel (List.length_pos_iff.mpr h)).symm⟩
theorem ne_of_pos {a : List Int} {t : Nat} (h : a.length = t + 1) : a ≠ [] := fun e => by rw [e] at h; cases h
theorem Hb {a : List Int} {t : Nat} (h : a.length = t + 1) : a.getLast? = some (co a t) := by
  rw [List.getLast?_eq_getElem?, h]; exact Fp (by rw [h]; exact Nat.lt_succ_self t)
theorem co_top {a : List Int} (ha : Ay a) {t : Nat} (h : a.length = t + 1) : co a t ≠ 0 := ha _ (Hb h)
theorem len_le {a b : List Int} (ha : Ay a) (h : ∀ n, co a n = co b n) : a.length ≤ b.length := by
  cases e : a.length with
  | zero => exact Nat.zero_le _
  | succ t =>
    refine Nat.lt_of_not_le fun hle => co_top ha e ?_
    rw [h, co_ge hle]
theorem eq_of_co {a b : List Int} (ha : Ay a) (hb : Ay b) (h : ∀ n, co a n = co b n) : a = b := by
  have hl : a.length = b.length := Nat.le_antisymm (len_le ha h) (len_le hb fun n => (h n).symm)
  refine List.ext_getElem? fun i => ?_
  by_cases hi : i < a.length
  · rw [Fp hi, Fp (hl ▸ hi), h]
  · rw [List.getElem?_eq_none (Nat.le_of_not_lt hi), List.getElem?_eq_none (hl ▸ Nat.le_of_not_lt hi)]
theorem Gr {a b : List Int} (ha : Ay a) (hb : Ay b) (h : ∀ x, 0 < x → ev a x = ev b x) : a = b := eq_of_co ha hb fun n => co_of n h
theorem Gp : Ay [] := fun x hx => by cases hx
theorem tl_top (a : List Int) : ∀ n k, tl a n ≤ k → k < n → a[k]? = some 0
  | 0, k, _, h => absurd h (Nat.not_lt_zero _)
  | n + 1, k, h, h2 => by
    by_cases h0 : a[n]? = some 0
    · have e : tl a (n + 1) = tl a n := if_pos h0
      rw [e] at h
      by_cases e : k = n
      · rw [e]; exact h0
      · exact tl_top a n k h (by with_reducible exact (ZD ‹_› ‹_›))
    · have e : tl a (n + 1) = n + 1 := if_neg h0
      lia
theorem co_trim (a : List Int) (k : Nat) : co (trim a) k = co a k := by
  unfold trim co
  rw [List.getD_eq_getElem?_getD, List.getD_eq_getElem?_getD, List.getElem?_take]
  by_cases h : k < tl a a.length
  · rw [if_pos h]
  · rw [if_neg h]
    by_cases h2 : k < a.length
    · rw [tl_top a a.length k (Nat.le_of_not_lt h) h2]; rfl
    · rw [List.getElem?_eq_none (Nat.le_of_not_lt h2)]
theorem tl_last (a : List Int) : ∀ n t, tl a n = t + 1 → a[t]? ≠ some 0
  | 0, t, h => by cases h
  | n + 1, t, h => by
    by_cases h0 : a[n]? = some 0
    · have e : tl a (n + 1) = tl a n := if_pos h0
      exact tl_last a n t (e ▸ h)
    · have e : tl a (n + 1) = n + 1 := if_neg h0
      rw [e] at h; cases h; exact h0
theorem tl_le' (a : List Int) : ∀ n, tl a n ≤ n
  | 0 => Nat.le_refl _
  | n + 1 => by
    by_cases h0 : a[n]? = some 0
    · have e : tl a (n + 1) = tl a n := if_pos h0
      rw [e]; exact Nat.le_succ_of_le (tl_le' a n)
    · have e : tl a (n + 1) = n + 1 := if_neg h0
      rw [e]; exact Nat.le_refl _
theorem Ir (a : List Int) : (trim a).length = tl a a.length := by
  unfold trim; rw [List.length_take]; exact Nat.min_eq_left (tl_le' a _)
theorem Eb (a : List Int) : Ay (trim a) := by
  intro x hx
  cases e : (trim a).length with
  | zero => rw [List.length_eq_zero_iff.mp e] at hx; cases hx
  | succ t =>
    have h1 : x = co (trim a) t := by rw [Hb e] at hx; exact (Option.some.inj hx).symm
    rw [h1, co_trim]
    rw [Ir] at e
    have h2 := tl_last a _ t e
    rw [Fp (by have := tl_le' a a.length; lia)] at h2
    exact fun h0 => h2 (congrArg some h0)
theorem Ei (a : List Int) (x : Int) : ev (trim a) x = ev a x := ev_co (co_trim a) x
theorem trim_lt {a : List Int} {t : Nat} (h : a.length = t + 1) (h0 : co a t = 0) : (trim a).length ≤ t := by
  refine Nat.le_of_not_lt fun hlt => ?_
  have h2 : (trim a).length = t + 1 := Nat.le_antisymm (by rw [Ir]; exact h ▸ tl_le' a _) hlt
  exact co_top (Eb a) h2 (by rw [co_trim]; exact h0)
theorem trim_self {a : List Int} (h : Ay a) : trim a = a := eq_of_co (Eb a) h (co_trim a)
theorem n1_pa : ∀ a b : List Int, n1 (pa a b) ≤ n1 a + n1 b
  | [], b => by show n1 b ≤ 0 + n1 b; rw [Nat.zero_add]; exact Nat.le_refl _
  | c :: r, [] => Nat.le_refl _
  | c :: r, d :: t => by
    show (c + d).natAbs + n1 (pa r t) ≤ (c.natAbs + n1 r) + (d.natAbs + n1 t)
    have := n1_pa r t
    have := Int.natAbs_add_le c d
    lia
theorem Iy (k : Int) : ∀ a : List Int, n1 (a.map (k * ·)) = k.natAbs * n1 a
  | [] => rfl
  | c :: r => by
    show (k * c).natAbs + n1 (r.map (k * ·)) = k.natAbs * (c.natAbs + n1 r)
    rw [Iy k r, Int.natAbs_mul, Nat.mul_add]
theorem n1_sh (b : List Int) : ∀ s : Nat, n1 (sh s b) = n1 b
  | 0 => rfl
  | s + 1 => (Nat.zero_add _).trans (n1_sh b s)
theorem n1_pm (b : List Int) : ∀ a : List Int, n1 (pm a b) ≤ n1 a * n1 b
  | [] => by show 0 ≤ _; exact Nat.zero_le _
  | c :: r => by
    refine Nat.le_trans (n1_pa _ _) ?_
    rw [Iy]
    show _ + (0 + n1 (pm r b)) ≤ (c.natAbs + n1 r) * n1 b
    rw [Nat.zero_add, Nat.add_mul]
    exact Nat.add_le_add_left (n1_pm b r) _
theorem n1_take : ∀ (a : List Int) (n : Nat), n1 (a.take n) ≤ n1 a
  | [], n => by rw [List.take_nil]; exact Nat.le_refl _
  | c :: r, 0 => Nat.zero_le _
  | c :: r, n + 1 => Nat.add_le_add_left (n1_take r n) _
theorem n1_trim (a : List Int) : n1 (trim a) ≤ n1 a := n1_take a _
theorem n1_mem {y : Int} : ∀ {a : List Int}, y ∈ a → y.natAbs ≤ n1 a
  | c :: r, h => by
    rcases List.mem_cons.mp h with rfl | h
    · exact Nat.le_add_right _ _
    · exact Nat.le_trans (n1_mem h) (Nat.le_add_left _ _)
theorem pa_lt : ∀ {a b : List Int}, a.length < b.length → (pa a b).length = b.length ∧ (pa a b).getLast? = b.getLast?
  | [], b, _ => ⟨rfl, rfl⟩
  | c :: r, [], h => absurd h (Nat.not_lt_zero _)
  | c :: r, d :: t, h => by
    obtain ⟨h1, h2⟩ := pa_lt (a := r) (b := t) (Nat.lt_of_succ_lt_succ h)
    refine ⟨congrArg (· + 1) h1, ?_⟩
    have ht : t ≠ [] := fun e => by rw [e] at h; exact absurd (Nat.lt_of_succ_lt_succ h) (Nat.not_lt_zero _)
    have hp : pa r t ≠ [] := fun e => by rw [e] at h1; exact ht (List.length_eq_zero_iff.mp h1.symm)
    show ((c + d) :: pa r t).getLast? = (d :: t).getLast?
    rw [List.getLast?_cons_of_ne_nil hp, List.getLast?_cons_of_ne_nil ht, h2]
theorem Ha {b : List Int} {m : Int} (hb : b.getLast? = some m) : ∀ {a : List Int} {l : Int}, a.getLast? = some l → (pm a b).length + 1 = a.length + b.length ∧ (pm a b).getLast? = some (l * m)
  | [], l, h => by cases h
  | [x], l, h => by
    cases h
    cases b with
    | nil => cases hb
    | cons y t =>
      have e : pm [x] (y :: t) = (y :: t).map (x * ·) := by
        show (x * y + 0) :: pa (t.map (x * ·)) [] = x * y :: t.map (x * ·)
        rw [Int.add_zero]
        congr 1
        cases t <;> rfl
      rw [e, List.getLast?_map, hb, List.length_map]
      exact ⟨Nat.add_comm _ _, rfl⟩
  | x :: z :: r, l, h => by
    have h' : (z :: r).getLast? = some l := by rw [← h]; rfl
    obtain ⟨h1, h2⟩ := Ha hb h'
    have hp : pm (z :: r) b ≠ [] := fun e => by rw [e] at h2; cases h2
    obtain ⟨h3, h4⟩ := pa_lt (a := b.map (x * ·)) (b := 0 :: pm (z :: r) b) (by rw [List.length_map, List.length_cons, h1]; simp only [List.length_cons]; lia)
    refine ⟨?_, ?_⟩
    · show (pa _ _).length + 1 = _
      rw [h3, List.length_cons, h1]; simp only [List.length_cons]; lia
    · show (pa _ _).getLast? = _
      rw [h4, List.getLast?_cons_of_ne_nil hp, h2]
theorem En {a : List Int} (h : a ≠ []) : ∃ l, a.getLast? = some l := by
  obtain ⟨t, ht⟩ := Ji h
  exact ⟨_, Hb ht⟩
theorem mul_is {a b c : List Int} (ha : Ay a) (hb : Ay b) (hc : Ay c) (a0 : a ≠ []) (b0 : b ≠ []) (h : ∀ x, ev c x = ev a x * ev b x) : c = pm a b := by
  obtain ⟨l, hl⟩ := En a0
  obtain ⟨m, hm⟩ := En b0
  refine Gr hc (fun z hz => ?_) fun x _ => (h x).trans (Fd x b a).symm
  rw [(Ha hm hl).2] at hz
  rw [← Option.some.inj hz]
  exact Int.mul_ne_zero (ha _ hl) (hb _ hm)
theorem eq_nil {a : List Int} (ha : Ay a) (h : ∀ x, ev a x = 0) : a = [] := Gr ha Gp fun x _ => h x
theorem cancel {a b c : List Int} (ha : Ay a) (a0 : a ≠ []) (h : ∀ x, ev a x * ev b x = ev a x * ev c x) (x : Int) : ev b x = ev c x := by
  have hd : ∀ x, ev (trim (pa b (c.map (-1 * ·)))) x = ev b x - ev c x := fun x => by rw [Ei, Fv, Ed]; lia
  by_cases hn : trim (pa b (c.map (-1 * ·))) = []
  · have := hd x
    rw [hn] at this
    have h0 : ev [] x = 0 := rfl
    lia
  · obtain ⟨l, hl⟩ := En a0
    obtain ⟨m, hm⟩ := En hn
    have := mul_is (c := []) ha (Eb _) Gp a0 hn fun x => by rw [hd, Int.mul_sub, h, Int.sub_self]; rfl
    have h2 := (Ha hm hl).2
    rw [← this] at h2; cases h2
end Mine
end
section
open PySem
namespace Mine
set_option tactic.hygienic false
set_option autoImplicit false
theorem ev_set (x v : Int) : ∀ (r : List Int) (k : Nat), k < r.length → ev (r.set k v) x = ev r x + (v - co r k) * x ^ k
  | [], k, h => absurd h (Nat.not_lt_zero _)
  | c :: r, 0, _ => by
    show v + x * ev r x = (c + x * ev r x) + (v - c) * x ^ 0
    rw [Int.pow_zero, Int.mul_one]; lia
  | c :: r, k + 1, h => by
    show c + x * ev (r.set k v) x = (c + x * ev r x) + (v - co r k) * x ^ (k + 1)
    rw [ev_set x v r k (Nat.lt_of_succ_lt_succ h), Int.mul_add, Int.pow_succ, Int.mul_comm (x ^ k) x, Int.mul_left_comm, Int.add_assoc]
theorem drop_co {b : List Int} {j : Nat} (h : j < b.length) : b.drop j = co b j :: b.drop (j + 1) := by
  rw [List.drop_eq_getElem_cons h]
  congr 1
  have := Fp h
  rw [List.getElem?_eq_getElem h] at this
  exact Option.some.inj this
theorem set_step {r : List Int} {k : Nat} (h : k < r.length) (v x : Int) : ev (r.set k (co r k + v)) x = ev r x + v * x ^ k := by
  rw [ev_set x _ r k h]; congr 2; lia
theorem up_eq (m x b E : Int) (p : Nat) : m * b * x ^ p + m * (x ^ (p + 1) * E) = m * (x ^ p * (b + x * E)) := by
  rw [Int.pow_succ, Int.mul_assoc m b, ← Int.mul_add, Int.mul_comm b, Int.mul_assoc (x ^ p), ← Int.mul_add]
theorem sub_go {m : Int} {b : List Int} {s : Nat} (hm : ∀ y ∈ b, Be m y = true) : ∀ (n j : Nat) (r : List Int), j + n = b.length → s + b.length ≤ r.length →
    ∃ r', Bk m b s (List.range' j n) r = some r' ∧ r'.length = r.length ∧ (∀ x, ev r' x = ev r x + -m * (x ^ (s + j) * ev (b.drop j) x)) ∧ (∀ t, b.length = t + 1 → 0 < n → co r' (s + t) = co r (s + t) + -m * co b t)
  | 0, j, r, hj, _ => ⟨r, rfl, rfl, fun x => by
      rw [List.drop_of_length_le (show b.length ≤ j from Nat.le_of_eq hj.symm)]
      show _ = ev r x + -m * (x ^ (s + j) * 0)
      rw [Int.mul_zero, Int.mul_zero, Int.add_zero], fun t _ h => absurd h (Nat.lt_irrefl _)⟩
  | n + 1, j, r, hj, hl => by
    have hjb : j < b.length := by lia
    have hk : j + s < r.length := by lia
    obtain ⟨r', e, h1, h2, h3⟩ := sub_go (s := s) hm n (j + 1) (r.set (j + s) (co r (j + s) + -m * co b j)) (by lia) (by rw [List.length_set]; exact hl)
    refine ⟨r', ?_, by rw [h1, List.length_set], fun x => ?_, fun t ht hn => ?_⟩
    · rw [List.range'_succ]
      have hs : Gk m b s r j = some (r.set (j + s) (co r (j + s) + -m * co b j)) := by
        unfold Gk
        rw [Fp hk, Fp hjb]
        show (if Be m (co b j) = true then _ else _) = _
        rw [if_pos (hm _ (co_mem hjb)), Int.sub_eq_add_neg, Int.neg_mul]
      show (match Gk m b s r j with | some r' => Bk m b s (List.range' (j + 1) n) r' | none => none) = _
      rw [hs]; exact e
    · rw [h2, set_step hk, Int.add_assoc, Nat.add_comm j s, Nat.add_assoc s j 1 |>.symm, up_eq, drop_co hjb]; rfl
    · by_cases hn0 : n = 0
      · subst hn0
        have hjt : j = t := by lia
        subst hjt
        have hr : r' = r.set (j + s) (co r (j + s) + -m * co b j) := (Option.some.inj e).symm
        rw [hr, Nat.add_comm s j]
        unfold co
        rw [List.getD_eq_getElem?_getD, List.getElem?_set_self hk]; rfl
      · rw [h3 t ht (Nat.pos_of_ne_zero hn0), co_set _ _ (by lia)]
theorem sub_step {m : Int} {b r : List Int} {s t u : Nat} (hm : ∀ y ∈ b, Be m y = true) (hb : b.length = t + 1) (hr : r.length = u + 1) (hu : u = s + t) :
    ∃ r', Bk m b s (List.range b.length) r = some r' ∧ r'.length = u + 1 ∧ (∀ x, ev r' x = ev r x + -m * (x ^ s * ev b x)) ∧ co r' u = co r u + -m * co b t := by
  obtain ⟨r', e, h1, h2, h3⟩ := sub_go (s := s) hm b.length 0 r (Nat.zero_add _) (by lia)
  rw [← List.range_eq_range'] at e
  refine ⟨r', e, h1.trans hr, h2, ?_⟩
  rw [hu]; exact h3 t hb (by lia)
theorem add_go {m : Int} {b : List Int} {s : Nat} (hm : ∀ y ∈ b, Be m y = true) : ∀ (n j : Nat) (r : List Int), j + n = b.length → s + b.length ≤ r.length →
    ∃ r', Hc m b s (List.range' j n) r = some r' ∧ r'.length = r.length ∧ (∀ x, ev r' x = ev r x + m * (x ^ (s + j) * ev (b.drop j) x))
  | 0, j, r, hj, _ => ⟨r, rfl, rfl, fun x => by
      rw [List.drop_of_length_le (show b.length ≤ j from Nat.le_of_eq hj.symm)]
      show _ = ev r x + m * (x ^ (s + j) * 0)
      rw [Int.mul_zero, Int.mul_zero, Int.add_zero]⟩
  | n + 1, j, r, hj, hl => by
    have hjb : j < b.length := by lia
    have hk : s + j < r.length := by lia
    obtain ⟨r', e, h1, h2⟩ := add_go (s := s) hm n (j + 1) (r.set (s + j) (co r (s + j) + m * co b j)) (by lia) (by rw [List.length_set]; exact hl)
    refine ⟨r', ?_, by rw [h1, List.length_set], fun x => ?_⟩
    · rw [List.range'_succ]
      have hs : Jn m b s r j = some (r.set (s + j) (co r (s + j) + m * co b j)) := by
        unfold Jn
        rw [Fp hk, Fp hjb]
        show (if Be m (co b j) = true then _ else _) = _
        rw [if_pos (hm _ (co_mem hjb))]
      show (match Jn m b s r j with | some r' => Hc m b s (List.range' (j + 1) n) r' | none => none) = _
      rw [hs]; exact e
    · rw [h2, set_step hk, Int.add_assoc, Nat.add_assoc s j 1 |>.symm, up_eq, drop_co hjb]; rfl
theorem mul_go {a b : List Int} (hm : ∀ x ∈ a, ∀ y ∈ b, Be x y = true) : ∀ (n j : Nat) (r : List Int), j + n = a.length → a.length + b.length ≤ r.length + 1 →
    ∃ r', Hl a b (List.range' j n) r = some r' ∧ (∀ x, ev r' x = ev r x + x ^ j * ev (a.drop j) x * ev b x)
  | 0, j, r, hj, _ => ⟨r, rfl, fun x => by
      rw [List.drop_of_length_le (show a.length ≤ j from Nat.le_of_eq hj.symm)]
      show _ = ev r x + x ^ j * 0 * ev b x
      rw [Int.mul_zero, Int.zero_mul, Int.add_zero]⟩
  | n + 1, j, r, hj, hl => by
    have hja : j < a.length := by lia
    obtain ⟨r1, e1, h1, h2⟩ := add_go (s := j) (hm _ (co_mem hja)) b.length 0 r (Nat.zero_add _) (by lia)
    obtain ⟨r', e, h3⟩ := mul_go hm n (j + 1) r1 (by lia) (by rw [h1]; exact hl)
    refine ⟨r', ?_, fun x => ?_⟩
    · rw [List.range'_succ]
      show (match a[j]? with | some x => (match Hc x b j (List.range b.length) r with | some r' => Hl a b (List.range' (j + 1) n) r' | none => none) | none => none) = _
      rw [Fp hja, List.range_eq_range']
      show (match Hc (co a j) b j (List.range' 0 b.length) r with | some r' => Hl a b (List.range' (j + 1) n) r' | none => none) = _
      rw [e1]; exact e
    · rw [h3, h2, drop_co hja, List.drop_zero, Int.add_assoc]
      congr 1
      show co a j * (x ^ j * ev b x) + x ^ (j + 1) * ev (a.drop (j + 1)) x * ev b x = x ^ j * (co a j + x * ev (a.drop (j + 1)) x) * ev b x
      rw [← Int.mul_assoc (co a j), ← Int.add_mul, Int.pow_succ, Int.mul_comm (co a j), Int.mul_assoc (x ^ j), ← Int.mul_add]
theorem ev_rep (x : Int) : ∀ n : Nat, ev (List.replicate n 0) x = 0
  | 0 => rfl
  | n + 1 => by
    rw [List.replicate_succ]
    show 0 + x * ev (List.replicate n 0) x = 0
    rw [ev_rep x n, Int.mul_zero]; rfl
theorem multiply_ok {a b : List Int} (hl : a.length + b.length ≤ LIM) (hm : ∀ x ∈ a, ∀ y ∈ b, Be x y = true) : ∃ r, multiply a b = some r ∧ Ay r ∧ ∀ x, ev r x = ev a x * ev b x := by
  unfold multiply
  by_cases h : a = [] ∨ b = []
  · rw [if_pos h]
    refine ⟨[], rfl, Gp, fun x => ?_⟩
    rcases h with rfl | rfl
    · exact (Int.zero_mul _).symm
    · exact (Int.mul_zero _).symm
  · rw [if_neg h, if_neg (Nat.not_lt_of_le hl)]
    obtain ⟨r, e, hc⟩ := mul_go hm a.length 0 (List.replicate (a.length + b.length - 1) 0) (Nat.zero_add _) (by rw [List.length_replicate]; lia)
    rw [← List.range_eq_range'] at e
    rw [e]
    refine ⟨trim r, rfl, Eb _, fun x => ?_⟩
    rw [Ei, hc, ev_rep, Int.zero_add, Int.pow_zero, Int.one_mul]; rfl
structure Inv (a b rest q : List Int) : Prop where
  sum : ∀ x, ev a x = ev rest x + ev q x * ev b x
  low : ∀ k, k + b.length ≤ rest.length → co q k = 0
  len : rest.length < q.length + b.length
  tr : Ay rest
theorem ex_turn {b rest q : List Int} {n s t : Nat} (hb : Ay b) (hs : rest.length = s + t + 1) (ht : b.length = t + 1) : Gy b (n + 1) rest q = if (co rest (s + t)).fmod (co b t) ≠ 0 then some none else
      if s < q.length then (match Bk ((co rest (s + t)).fdiv (co b t)) b s (List.range b.length) rest with
        | none => none
        | some r => if trim r = [] then some (some ([], q.set s ((co rest (s + t)).fdiv (co b t)))) else Gy b n (trim r) (q.set s ((co rest (s + t)).fdiv (co b t)))) else none := by
  have e : Gy b (n + 1) rest q = if rest.length < b.length then some (some (rest, q)) else
    match rest.getLast?, b.getLast? with
    | some x, some y => if y = 0 then none else if x.fmod y ≠ 0 then some none else
      if rest.length - b.length < q.length then
        match Bk (x.fdiv y) b (rest.length - b.length) (List.range b.length) rest with
        | none => none
        | some r => if trim r = [] then some (some ([], q.set (rest.length - b.length) (x.fdiv y))) else Gy b n (trim r) (q.set (rest.length - b.length) (x.fdiv y))
      else none
    | _, _ => none := rfl
  rw [e, if_neg (by lia), Hb hs, Hb ht, show rest.length - b.length = s by lia]
  exact if_neg (co_top hb ht)
theorem ex_run {a b : List Int} (hb : Ay b) (b0 : b ≠ []) (hm : ∀ c : Int, ∀ y ∈ b, Be c y = true) : ∀ (n : Nat) (rest q : List Int), rest.length < n → Inv a b rest q →
    (Gy b n rest q = some none ∧ ¬ ∃ g, ∀ x, ev a x = ev g x * ev b x) ∨ ∃ r' q', Gy b n rest q = some (some (r', q')) ∧ Inv a b r' q' ∧ r'.length < b.length
  | 0, rest, q, h, _ => absurd h (Nat.not_lt_zero _)
  | n + 1, rest, q, h, I => by
    by_cases h1 : rest.length < b.length
    · exact .inr ⟨rest, q, if_pos h1, I, h1⟩
    · obtain ⟨t, ht⟩ := Ji b0
      obtain ⟨s, hs⟩ : ∃ s, rest.length = s + t + 1 := ⟨rest.length - b.length, by lia⟩
      rw [ex_turn hb hs ht]
      by_cases h2 : (co rest (s + t)).fmod (co b t) = 0
      · rw [if_neg (not_not_intro h2)]
        have hcx : co rest (s + t) = (co rest (s + t)).fdiv (co b t) * co b t := by
          have := Int.mul_fdiv_add_fmod (co rest (s + t)) (co b t)
          rw [h2, Int.add_zero, Int.mul_comm] at this
          exact this.symm
        generalize (co rest (s + t)).fdiv (co b t) = c at hcx ⊢
        obtain ⟨r, e, hrl, hrc, htop⟩ := sub_step (s := s) (hm c) ht hs rfl
        have hq : s < q.length := by have := I.len; lia
        rw [if_pos hq, e]
        have hlt : (trim r).length ≤ s + t := trim_lt hrl (by rw [htop, hcx, Int.neg_mul, Int.add_right_neg])
        have I' : Inv a b (trim r) (q.set s c) := ⟨fun x => by
            rw [Ei, hrc, ev_set x c q s hq, I.low s (by lia), I.sum x, Int.sub_zero, Int.add_mul, Int.neg_mul, Int.mul_assoc c]; lia, fun k hk => by
            rw [co_set _ _ (by lia)]; exact I.low k (by lia), by rw [List.length_set]; lia, Eb r⟩
        show (if trim r = [] then _ else _) = _ ∧ _ ∨ ∃ r' q', (if trim r = [] then _ else _) = _ ∧ _
        by_cases h3 : trim r = []
        · rw [if_pos h3]; rw [h3] at I'; exact .inr ⟨_, _, rfl, I', by rw [ht]; exact Nat.succ_pos _⟩
        · rw [if_neg h3]
          exact ex_run hb b0 hm n _ _ (by lia) I'
      · rw [if_pos h2]
        refine .inl ⟨rfl, fun ⟨g, hg⟩ => h2 ?_⟩
        have hr0 : rest ≠ [] := ne_of_pos hs
        have hh : ∀ x, ev rest x = ev (trim (pa g (q.map (-1 * ·)))) x * ev b x := fun x => by
          have := I.sum x
          rw [hg] at this
          rw [Ei, Fv, Ed, Int.add_mul, this, Int.neg_mul, Int.one_mul, Int.neg_mul]; lia
        have hn : trim (pa g (q.map (-1 * ·))) ≠ [] := fun e0 => hr0 (eq_nil I.tr fun x => by rw [hh, e0]; exact Int.zero_mul _)
        obtain ⟨l, hl⟩ := En hn
        have h5 := (Ha (Hb ht) hl).2
        rw [← mul_is (Eb _) hb I.tr hn b0 hh, Hb hs] at h5
        rw [Option.some.inj h5]; exact Int.mul_fmod_left _ _
theorem inv_start {a b : List Int} (ha : Ay a) (hb0 : b ≠ []) : Inv a b a (List.replicate (a.length + 1 - b.length) 0) where
  sum := fun x => by rw [ev_rep, Int.zero_mul, Int.add_zero]
  low := fun k _ => by
    unfold co; rw [List.getD_eq_getElem?_getD, List.getElem?_replicate]; by_cases h : k < a.length + 1 - b.length
    · rw [if_pos h]; rfl
    · rw [if_neg h]; rfl
  len := by
    have hbl : 0 < b.length := List.length_pos_iff.mpr hb0
    rw [List.length_replicate]; lia
  tr := ha
theorem exdiv_ok {a b : List Int} (ha : Ay a) (hb : Ay b) (b0 : b ≠ []) (la : a.length < LIM) (lb : b.length ≤ LIM) (hm : ∀ c : Int, ∀ y ∈ b, Be c y = true) :
    (∀ g, Ay g → (∀ x, ev a x = ev g x * ev b x) → exdiv a b = some (some g)) ∧ ((¬ ∃ g, ∀ x, ev a x = ev g x * ev b x) → exdiv a b = some none) := by
  have e : exdiv a b = match Gy b (a.length + 1) a (List.replicate (a.length + 1 - b.length) 0) with
    | none => none
    | some none => some none
    | some (some (r, q)) => if r = [] then some (some (trim q)) else some none := if_neg (by lia)
  rw [e]
  rcases ex_run hb b0 hm (a.length + 1) a _ (Nat.lt_succ_self _) (inv_start ha b0) with ⟨h1, h2⟩ | ⟨r, q, h1, I, hl⟩
  · rw [h1]
    exact ⟨fun g _ hg => absurd ⟨g, hg⟩ h2, fun _ => rfl⟩
  · rw [h1]
    refine ⟨fun g tg hg => ?_, fun hn => if_neg fun hr => hn ⟨q, fun x => by rw [I.sum, hr]; exact Int.zero_add _⟩⟩
    have hh : ∀ x, ev r x = ev (trim (pa g (q.map (-1 * ·)))) x * ev b x := fun x => by
      have := I.sum x
      rw [hg] at this
      rw [Ei, Fv, Ed, Int.add_mul, this, Int.neg_mul, Int.one_mul, Int.neg_mul]; lia
    have hn : trim (pa g (q.map (-1 * ·))) = [] := Classical.byContradiction fun hn => by
      obtain ⟨l, hl2⟩ := En hn
      obtain ⟨m, hm2⟩ := En b0
      have h5 := (Ha hm2 hl2).1
      rw [← mul_is (Eb _) hb I.tr hn b0 hh] at h5
      have := List.length_pos_iff.mpr hn
      lia
    have hr : r = [] := eq_nil I.tr fun x => by rw [hh, hn]; exact Int.zero_mul _
    refine (if_pos hr).trans (congrArg (some <| some ·) (Gr (Eb q) tg fun x _ => ?_))
    have h6 : ev (trim (pa g (q.map (-1 * ·)))) x = 0 := by rw [hn]; rfl
    rw [Ei, Fv, Ed] at h6
    rw [Ei]; lia
end Mine
end
section
open PySem
namespace Mine
set_option tactic.hygienic false
set_option autoImplicit false
theorem bits_le {x : Int} {p : Nat} (h : x.natAbs < 2 ^ p) : Builtin.Int.intBits x ≤ p := by
  unfold Builtin.Int.intBits
  by_cases h0 : (x == 0) = true
  · rw [if_pos h0]; exact Nat.zero_le _
  · rw [if_neg h0]
    have hne : x.natAbs ≠ 0 := fun e => h0 (by rw [Int.natAbs_eq_zero.mp e]; rfl)
    exact (Nat.log2_lt hne).mpr h
theorem Jk {x y : Int} (h : x.natAbs < 2 ^ 64) : Be x y = true := by
  have : decide (Builtin.Int.intBits x > shortFactorBits) = false := decide_eq_false (Nat.not_lt_of_le (bits_le h))
  unfold Be; rw [this]; rfl
theorem mulOk_r {x y : Int} (h : y.natAbs < 2 ^ 64) : Be x y = true := by
  have : decide (Builtin.Int.intBits y > shortFactorBits) = false := decide_eq_false (Nat.not_lt_of_le (bits_le h))
  unfold Be; rw [this, Bool.and_false]; rfl
theorem Hg {x y : Int} {p q : Nat} (hx : x.natAbs < 2 ^ p) (hy : y.natAbs < 2 ^ q) (h : p + q ≤ bitsLine) : Be x y = true := by
  have h1 := bits_le hx
  have h2 := bits_le hy
  have : Builtin.Int.intTooBig ((Builtin.Int.intBits x : Int) + (Builtin.Int.intBits y : Int)) = false := decide_eq_false (by lia)
  unfold Be; rw [this, Bool.and_false]; rfl
noncomputable def Sm (a : List Int) : Prop := n1 a < 2 ^ 64
theorem Sm.r {a : List Int} (h : Sm a) (c : Int) : ∀ y ∈ a, Be c y = true := fun y hy => mulOk_r (Nat.lt_of_le_of_lt (n1_mem hy) h)
noncomputable def Dv (c : Int) (a : List Int) : Prop := ∀ n, c ∣ co a n
theorem Dv.of_mem {c : Int} {a : List Int} (h : ∀ y ∈ a, c ∣ y) : Dv c a := fun n => by
  by_cases hn : n < a.length
  · exact h _ (co_mem hn)
  · rw [co_ge (Nat.le_of_not_lt hn)]; exact Int.dvd_zero c
theorem Dv.mem {c : Int} {a : List Int} (h : Dv c a) {y : Int} (hy : y ∈ a) : c ∣ y := by
  obtain ⟨n, hn, e⟩ := List.getElem_of_mem hy
  have := Fp hn
  rw [List.getElem?_eq_getElem hn, e] at this
  rw [Option.some.inj this]; exact h n
theorem Dv.quo {c : Int} {a : List Int} (h : Dv c a) : (a.map (·.fdiv c)).map (c * ·) = a := by
  rw [List.map_map]
  refine (List.map_congr_left fun y hy => ?_).trans (List.map_id _)
  exact Int.mul_fdiv_cancel' (h.mem hy)
structure Gd (G : List Int) : Prop where
  ne : G ≠ []
  pos : ∀ l, G.getLast? = some l → 0 < l
  gp : ∀ (c : Int) (q r : List Int), (∀ x, ev r x = ev G x * ev q x) → Dv c r → Dv c q
theorem Gd.tr {G : List Int} (h : Gd G) : Ay G := fun l hl => Int.ne_of_gt (h.pos l hl)
theorem Gd.mul {A B : List Int} (ha : Gd A) (hb : Gd B) : Gd (pm A B) := by
  obtain ⟨l, hl⟩ := En ha.ne
  obtain ⟨m, hm⟩ := En hb.ne
  have h2 := (Ha hm hl).2
  refine ⟨fun e => by (rw [e] at h2; cases h2), fun z hz => ?_, fun c q r h d => ?_⟩
  · rw [h2] at hz
    rw [← Option.some.inj hz]; exact Int.mul_pos (ha.pos _ hl) (hb.pos _ hm)
  · refine hb.gp c q (pm B q) (fun x => Fd x q B) (ha.gp c _ r (fun x => ?_) d)
    rw [h, Fd, Fd, Int.mul_assoc]
theorem gfold_dvd : ∀ (z : List Int) (g : Int), Eu z g ∣ g ∧ ∀ y ∈ z, Eu z g ∣ y
  | [], g => ⟨Int.dvd_refl g, fun y h => by cases h⟩
  | c :: z, g => by
    obtain ⟨h1, h2⟩ := gfold_dvd z (Int.gcd g c : Int)
    refine ⟨Int.dvd_trans h1 (Int.gcd_dvd_left g c), fun y hy => ?_⟩
    rcases List.mem_cons.mp hy with rfl | hy
    · exact Int.dvd_trans h1 (Int.gcd_dvd_right g y)
    · exact h2 y hy
theorem dvd_gfold {d : Int} : ∀ (z : List Int) (g : Int), d ∣ g → (∀ y ∈ z, d ∣ y) → d ∣ Eu z g
  | [], g, h, _ => h
  | c :: z, g, h, hz => dvd_gfold z _ (Int.dvd_coe_gcd h (hz c (List.mem_cons_self ..))) fun y hy => hz y (List.mem_cons_of_mem _ hy)
theorem gfold_nn : ∀ (z : List Int) (g : Int), 0 ≤ g → 0 ≤ Eu z g
  | [], g, h => h
  | c :: z, g, _ => gfold_nn z _ (Int.natCast_nonneg _)
theorem Jc (z : List Int) : Dv (Eu z 0) z := .of_mem (gfold_dvd z 0).2
theorem gf_scale {G : List Int} (h : Gd G) (k : Int) : Eu (G.map (k * ·)) 0 = k.natAbs := by
  have h1 : Eu (G.map (k * ·)) 0 ∣ k := h.gp _ [k] (G.map (k * ·)) (fun x => by
    rw [Ed, Int.mul_comm]
    show _ = ev G x * (k + x * 0)
    rw [Int.mul_zero, Int.add_zero]) (Jc _) 0
  have h2 : k ∣ Eu (G.map (k * ·)) 0 := dvd_gfold _ _ (Int.dvd_zero k) fun y hy => by
    obtain ⟨z, _, rfl⟩ := List.mem_map.mp hy
    exact Int.dvd_mul_right k z
  have h3 := gfold_nn (G.map (k * ·)) 0 (Int.le_refl 0)
  have := Nat.dvd_antisymm (Int.natAbs_dvd_natAbs.mpr h1) (Int.natAbs_dvd_natAbs.mpr h2)
  lia
theorem Fi {G : List Int} (h : Gd G) (k : Int) : content (G.map (k * ·)) = k := by
  obtain ⟨l, hl⟩ := En h.ne
  have hp := h.pos l hl
  unfold content
  rw [List.getLast?_map, hl]
  show (if k * l > 0 then _ else _) = k
  rw [gf_scale h]
  by_cases hk : 0 < k
  · rw [if_pos (Int.mul_pos hk hp)]; lia
  · have : k * l ≤ 0 := Int.mul_nonpos_of_nonpos_of_nonneg (Int.le_of_not_gt hk) (Int.le_of_lt hp)
    rw [if_neg (Int.not_lt.mpr this)]; lia
theorem Em {G : List Int} (h : Gd G) {k : Int} (hk : k ≠ 0) (hl : G.length ≤ LIM) : primitive (G.map (k * ·)) = some G := by
  have e : primitive (G.map (k * ·)) = if content (G.map (k * ·)) = 0 ∨ LIM < (G.map (k * ·)).length then none else some ((G.map (k * ·)).map (·.fdiv (content (G.map (k * ·))))) :=
    if_neg fun e => h.ne (List.map_eq_nil_iff.mp e)
  rw [e, Fi h, List.length_map, if_neg (fun h => h.elim hk (Nat.not_lt_of_le hl)), List.map_map]
  refine congrArg some ((List.map_congr_left fun y _ => ?_).trans (List.map_id _))
  exact Int.mul_fdiv_cancel_left _ hk
theorem Ga (G : List Int) : G.map ((1 : Int) * ·) = G := (List.map_congr_left fun y _ => Int.one_mul y).trans (List.map_id _)
theorem Fz {G : List Int} (h : Gd G) (hl : G.length ≤ LIM) : primitive G = some G := by
  have := Em h (k := 1) (by decide) hl
  rwa [Ga] at this
theorem content_self {G : List Int} (h : Gd G) : content G = 1 := by
  have := Fi h 1
  rwa [Ga] at this
theorem shrink_self {G : List Int} (h : Gd G) (hl : G.length ≤ LIM) : Es G = some G := by
  have h1 := gf_scale h 1
  rw [Ga] at h1
  unfold Es
  rw [if_neg (Nat.not_lt_of_le hl), h1, if_neg (by decide)]
  refine congrArg some ((List.map_congr_left fun y _ => ?_).trans (List.map_id _))
  exact Int.fdiv_one y
structure Cof (G z z' : List Int) : Prop where
  t : Ay z
  t' : Ay z'
  e : ∀ x, ev z x = ev G x * ev z' x
theorem Cof.nil {G z : List Int} (h : Cof G z []) : z = [] := eq_nil h.t fun x => by rw [h.e]; exact Int.mul_zero _
theorem Cof.is {G z z' : List Int} (g : Gd G) (h : Cof G z z') (h0 : z' ≠ []) : z = pm G z' := mul_is g.tr h.t' h.t g.ne h0 h.e
theorem Cof.len {G z z' : List Int} (g : Gd G) (h : Cof G z z') (h0 : z' ≠ []) : z.length + 1 = G.length + z'.length := by
  obtain ⟨l, hl⟩ := En g.ne
  obtain ⟨m, hm⟩ := En h0
  rw [h.is g h0]; exact (Ha hm hl).1
theorem Cof.ne {G z z' : List Int} (h : Cof G z z') (h0 : z ≠ []) : z' ≠ [] := fun e => h0 (by rw [e] at h; exact h.nil)
theorem Cof.ne' {G z z' : List Int} (g : Gd G) (h : Cof G z z') (h0 : z' ≠ []) : z ≠ [] := fun e => by
  have := h.len g h0
  have h1 := List.length_pos_iff.mpr g.ne
  have h2 := List.length_pos_iff.mpr h0
  rw [e] at this; simp only [List.length_nil] at this; lia
theorem Cof.n1 {G z z' : List Int} (g : Gd G) (h : Cof G z z') : n1 z ≤ n1 G * n1 z' := by
  by_cases h0 : z' = []
  · rw [h0] at h ⊢; rw [h.nil]; exact Nat.zero_le _
  · rw [h.is g h0]; exact n1_pm _ _
noncomputable def Cop (f g : Int → Int) : Prop := ∃ (u v : List Int) (c : Int), c ≠ 0 ∧ ∀ x, ev u x * f x + ev v x * g x = c
theorem co_le (a : List Int) (n : Nat) : (co a n).natAbs ≤ n1 a := by
  by_cases h : n < a.length
  · exact n1_mem (co_mem h)
  · rw [co_ge (Nat.le_of_not_lt h)]; exact Nat.zero_le _
theorem pr_run {G y y' : List Int} (g : Gd G) (Cy : Cof G y y') {t : Nat} (ht : y.length = t + 1) {alc sg : Int} (hs : sg.natAbs = 1) (ha : alc ≠ 0) (hal : alc = sg * co y t) {c M E : Nat} (hc : 2 * (n1 G * n1 y') ≤ 2 ^ c) (hM : M * n1 G < 2 ^ E) (hy : n1 y < 2 ^ E) (EE : E + E ≤ bitsLine) :
    ∀ (k n : Nat) (z z' : List Int), Cof G z z' → z.length < y.length + k → k < n → 2 ^ (c * k) * n1 z' ≤ M →
    ∃ (r r' q : List Int) (l : Int), Gw y alc sg n z = some r ∧ Cof G r r' ∧ r.length < y.length ∧ l ≠ 0 ∧ (∀ x, l * ev z' x = ev q x * ev y' x + ev r' x) ∧ n1 r' ≤ M
  | k, 0, z, z', _, _, h, _ => absurd h (Nat.not_lt_zero _)
  | k, n + 1, z, z', Cz, hl, hk, hb => by
    have hpow : 1 ≤ 2 ^ (c * k) := Nat.one_le_two_pow
    have hz' : n1 z' ≤ M := Nat.le_trans (Nat.le_mul_of_pos_left _ hpow) hb
    by_cases h1 : z.length < y.length
    · exact ⟨z, z', [], 1, if_pos h1, Cz, h1, by decide, fun x => by
        show _ = 0 * _ + _
        rw [Int.one_mul, Int.zero_mul, Int.zero_add], hz'⟩
    · obtain ⟨s, hzl⟩ : ∃ s, z.length = s + t + 1 := ⟨z.length - y.length, by lia⟩
      cases k with
      | zero => exact absurd hl h1
      | succ k =>
        have hzn : n1 z < 2 ^ E := Nat.lt_of_le_of_lt (Nat.le_trans (Cz.n1 g) (by rw [Nat.mul_comm]; exact Nat.mul_le_mul_right _ hz')) hM
        have hm1 : (co z (s + t) * sg).natAbs = (co z (s + t)).natAbs := by rw [Int.natAbs_mul, hs, Nat.mul_one]
        have hma : (alc).natAbs = (co y t).natAbs := by rw [hal, Int.natAbs_mul, hs, Nat.one_mul]
        obtain ⟨r, e, hrl, hrc, htop⟩ := sub_step (m := co z (s + t) * sg) (b := y) (r := z.map (alc * ·)) (s := s) (t := t) (u := s + t) (fun w hw => Hg (p := E) (q := E) (by rw [hm1]; exact Nat.lt_of_le_of_lt (co_le z _) hzn) (Nat.lt_of_le_of_lt (n1_mem hw) hy) EE) ht (by rw [List.length_map]; exact hzl) rfl
        have hlt : (trim r).length ≤ s + t := trim_lt hrl (by
          rw [htop, Ii, hal, Int.neg_mul, Int.mul_comm (co z (s + t)), Int.mul_assoc, Int.mul_assoc, Int.mul_comm (co y t)]; lia)
        have hall : Id alc z = some (z.map (alc * ·)) := if_pos (List.all_eq_true.mpr fun w hw => Hg (p := E) (q := E) (by rw [hma]; exact Nat.lt_of_le_of_lt (co_le y _) hy) (Nat.lt_of_le_of_lt (n1_mem hw) hzn) EE)
        have ep : Gw y alc sg (n + 1) z = Gw y alc sg n (trim r) := by
          have e0 : Gw y alc sg (n + 1) z = if z.length < y.length then some z else
            match z.getLast? with
            | some x => if Be x sg then
                match Id alc z with
                | some z1 => match Bk (x * sg) y (z.length - y.length) (List.range y.length) z1 with
                  | some r => Gw y alc sg n (trim r)
                  | none => none
                | none => none
              else none
            | none => none := rfl
          rw [e0, if_neg h1, Hb hzl, show z.length - y.length = s by lia, hall]
          show (if Be (co z (s + t)) sg = true then (match Bk (co z (s + t) * sg) y s (List.range y.length) (z.map (alc * ·)) with | some r => Gw y alc sg n (trim r) | none => none) else none) = _
          rw [if_pos (mulOk_r (by rw [hs]; decide)), e]
        have Cr : Cof G (trim r) (trim (pa (z'.map (alc * ·)) (sh s (y'.map (-(co z (s + t) * sg) * ·))))) := ⟨Eb _, Eb _, fun x => by
          rw [Ei, Ei, hrc, Ed, Fv, Ed, ev_sh, Ed, Cz.e, Cy.e, Int.mul_add, Int.mul_left_comm alc, Int.mul_left_comm (x ^ s) (ev G x), Int.mul_left_comm (-(co z (s + t) * sg)) (ev G x), Int.mul_left_comm (x ^ s) (-(co z (s + t) * sg))]⟩
        have hn : n1 (trim (pa (z'.map (alc * ·)) (sh s (y'.map (-(co z (s + t) * sg) * ·))))) ≤ 2 ^ c * n1 z' := by
          refine Nat.le_trans (n1_trim _) (Nat.le_trans (n1_pa _ _) ?_)
          rw [n1_sh, Iy, Iy, Int.natAbs_neg, hm1, hma]
          refine Nat.le_trans (Nat.add_le_add (Nat.mul_le_mul_right _ (Nat.le_trans (co_le y _) (Cy.n1 g))) (Nat.mul_le_mul_right _ (Nat.le_trans (co_le z _) (Cz.n1 g)))) ?_
          rw [Nat.mul_right_comm (n1 G) (n1 z'), ← Nat.two_mul, ← Nat.mul_assoc]
          exact Nat.mul_le_mul_right _ hc
        obtain ⟨r2, r', q, l, e2, C2, hl2, l0, hq, hn2⟩ := pr_run g Cy ht hs ha hal hc hM hy EE k n (trim r) _ Cr (by lia) (by exact Nat.lt_of_succ_lt_succ ‹_›) (Nat.le_trans (Nat.mul_le_mul_left _ hn) (by rw [← Nat.mul_assoc, ← Nat.pow_add]; exact hb))
        refine ⟨r2, r', pa q (sh s [l * (co z (s + t) * sg)]), l * alc, ep.trans e2, C2, hl2, Int.mul_ne_zero l0 ha, fun x => ?_, hn2⟩
        have h5 := hq x
        rw [Ei, Fv, Ed, ev_sh, Ed, Int.mul_add, Int.neg_mul, Int.mul_neg, Int.mul_neg] at h5
        have h6 : ev [l * (co z (s + t) * sg)] x = l * (co z (s + t) * sg) := by
          show _ + x * 0 = _
          rw [Int.mul_zero, Int.add_zero]
        have h7 : x ^ s * (l * (co z (s + t) * sg)) * ev y' x = l * (x ^ s * (co z (s + t) * sg * ev y' x)) := by
          rw [Int.mul_left_comm, Int.mul_assoc, Int.mul_assoc]
        rw [Fv, ev_sh, h6, Int.add_mul, h7, Int.mul_assoc]
        lia
end Mine
end
section
open PySem
namespace Mine
set_option tactic.hygienic false
set_option autoImplicit false
theorem Dv.ev {c : Int} {a : List Int} (h : Dv c a) (x : Int) : ev a x = c * ev (a.map (·.fdiv c)) x := by
  conv => lhs; rw [← h.quo]
  exact Ed _ _ _
theorem Dv.n1 {c : Int} {a : List Int} (h : Dv c a) (c0 : c ≠ 0) : n1 (a.map (·.fdiv c)) ≤ n1 a := by
  conv => rhs; rw [← h.quo]
  rw [Iy]
  exact Nat.le_mul_of_pos_left _ (Int.natAbs_pos.mpr c0)
theorem Dv.tr {c : Int} {a : List Int} (h : Dv c a) (ha : Ay a) : Ay (a.map (·.fdiv c)) := by
  intro z hz e
  have : ((a.map (·.fdiv c)).map (c * ·)).getLast? = some (c * z) := by rw [List.getLast?_map, hz]; rfl
  rw [h.quo] at this
  exact ha _ this (by rw [e, Int.mul_zero])
theorem Ff {k : Int} (hk : k ≠ 0) {a : List Int} (ha : Ay a) : Ay (a.map (k * ·)) := by
  intro x hx
  rw [List.getLast?_map] at hx
  cases h : a.getLast? with
  | none => rw [h] at hx; cases hx
  | some y => rw [h] at hx; rw [← Option.some.inj hx]; exact Int.mul_ne_zero hk (ha _ h)
theorem cof_div {G z z' : List Int} (g : Gd G) (C : Cof G z z') {c : Int} (c0 : c ≠ 0) (h : Dv c z) : Dv c z' ∧ Cof G (z.map (·.fdiv c)) (z'.map (·.fdiv c)) := by
  have h' : Dv c z' := g.gp c z' z C.e h
  refine ⟨h', h.tr C.t, h'.tr C.t', fun x => ?_⟩
  have e := C.e x
  rw [h.ev, h'.ev, Int.mul_left_comm] at e
  exact Int.eq_of_mul_eq_mul_left c0 e
theorem shrink_ok {r : List Int} (hl : r.length ≤ LIM) (tr : Ay r) (h0 : r ≠ []) : Eu r 0 ≠ 0 ∧ Es r = some (r.map (·.fdiv (Eu r 0))) := by
  have hg : Eu r 0 ≠ 0 := fun e => by
    obtain ⟨t, ht⟩ := Ji h0
    have := Jc r t
    rw [e] at this
    exact co_top tr ht (Int.zero_dvd.mp this)
  refine ⟨hg, ?_⟩
  unfold Es
  rw [if_neg (Nat.not_lt_of_le hl), if_neg hg]
theorem gcd_step {G : List Int} (g : Gd G) {γ b E : Nat} (hg : n1 G ≤ 2 ^ γ) {x y x' y' : List Int} (Cx : Cof G x x') (Cy : Cof G y y') (y0 : y ≠ []) {k : Nat} (hk : x.length < y.length + k) (hk2 : k ≤ x.length) (bx : n1 x' ≤ 2 ^ b) (bY : n1 y' ≤ 2 ^ b)
    (hE : (1 + γ + b) * (k + 1) ≤ E) (EE : E + E ≤ bitsLine) (lx : x.length ≤ LIM) (ly : y.length ≤ LIM) (cp : Cop (ev x') (ev y')) :
    ∃ r y1 y1', Ev x y = some r ∧ Es r = some y1 ∧ Cof G y1 y1' ∧ y1.length < y.length ∧ n1 y1' ≤ 2 ^ ((1 + γ + b) * k + b) ∧ Cop (ev y') (ev y1') := by
  obtain ⟨t, ht⟩ := Ji y0
  have hne := co_top Cy.t ht
  rw [Nat.mul_add, Nat.mul_one] at hE
  have hgy : n1 G * n1 y' ≤ 2 ^ (γ + b) := by rw [Nat.pow_add]; exact Nat.mul_le_mul hg bY
  have hposrem : Ev x y = Gw y ((co y t).natAbs : Int) (if co y t < 0 then -1 else 1) (x.length + 1) x := by
    unfold Ev
    rw [if_neg (by lia), Hb ht]
  have hpow : ∀ {p q : Nat}, p < q → (2 : Nat) ^ p < 2 ^ q := fun h => Nat.pow_lt_pow_right (by decide) h
  obtain ⟨r, r', q, l, e, Cr, hrl, l0, hq, hn⟩ := pr_run g Cy ht (alc := ((co y t).natAbs : Int)) (sg := if co y t < 0 then -1 else 1) (c := 1 + γ + b) (M := 2 ^ ((1 + γ + b) * k + b)) (E := E)
    (by by_cases h : co y t < 0 <;> simp only [h, if_true, if_false] <;> rfl) (by lia) (by by_cases h : co y t < 0 <;> simp only [h, if_true, if_false] <;> lia)
    (by rw [Nat.add_assoc, Nat.pow_add]; exact Nat.mul_le_mul_left _ hgy)
    (Nat.lt_of_le_of_lt (Nat.mul_le_mul_left _ hg) (by rw [← Nat.pow_add]; exact hpow (by lia)))
    (Nat.lt_of_le_of_lt (Nat.le_trans (Cy.n1 g) hgy) (hpow (by lia))) EE k (x.length + 1) x x' Cx hk (by exact Nat.lt_succ_of_le ‹_›) (by rw [Nat.pow_add]; exact Nat.mul_le_mul_left _ bx)
  obtain ⟨u, v, c, c0, hc⟩ := cp
  by_cases hr : r = []
  · subst hr
    have hr' : r' = [] := Classical.byContradiction fun h => Cr.ne' g h rfl
    subst hr'
    refine ⟨[], [], [], hposrem.trans e, rfl, Cr, by rw [ht]; exact Nat.succ_pos _, Nat.zero_le _, pa (pm u q) (v.map (l * ·)), [], c * l, Int.mul_ne_zero c0 l0, fun x => ?_⟩
    have h1 := hq x
    have h0 : ev [] x = 0 := rfl
    rw [h0, Int.add_zero] at h1
    rw [h0, Int.mul_zero, Int.add_zero, ← hc x, Fv, Fd, Ed, Int.add_mul, Int.add_mul, Int.mul_assoc, ← h1, Int.mul_left_comm, Int.mul_assoc, Int.mul_comm l, Int.mul_comm l, Int.mul_assoc]
  · obtain ⟨hg0, hsh⟩ := shrink_ok (by lia) Cr.t hr
    obtain ⟨hd, C1⟩ := cof_div g Cr hg0 (Jc r)
    refine ⟨r, _, _, hposrem.trans e, hsh, C1, by rw [List.length_map]; exact hrl, Nat.le_trans (hd.n1 hg0) hn, pa (pm u q) (v.map (l * ·)), u.map (Eu r 0 * ·), c * l, Int.mul_ne_zero c0 l0, fun x => ?_⟩
    have h1 := hq x
    rw [hd.ev] at h1
    generalize ev (List.map (fun x => x.fdiv (Eu r 0)) r') x = w at h1 ⊢
    rw [← hc x, Fv, Fd, Ed, Ed, Int.add_mul, Int.add_mul, Int.mul_assoc (ev u x), Int.mul_assoc (ev u x), Int.mul_comm (ev x' x), h1, Int.mul_add, Int.mul_assoc, Int.mul_assoc, Int.mul_left_comm (ev u x) (Eu r 0), Int.mul_comm l, Int.mul_assoc]
    lia
theorem two_le (d : Nat) : d + 3 ≤ 3 ^ (d + 1) := by
  induction d with
  | zero => decide
  | succ d ih => rw [Nat.pow_succ]; lia
theorem gcd_go {G : List Int} (g : Gd G) {γ E : Nat} (hg : n1 G ≤ 2 ^ γ) (EE : E + E ≤ bitsLine) : ∀ (n b : Nat) (x y x' y' : List Int), Cof G x x' → Cof G y y' → y.length < x.length → x.length ≤ LIM → y.length < n → n1 x' ≤ 2 ^ b → n1 y' ≤ 2 ^ b → (1 + γ + b) * 3 ^ x'.length ≤ E → Cop (ev x') (ev y') →
    ∃ t, t ≠ 0 ∧ Eg n x y = some (G.map (t * ·))
  | 0, b, x, y, x', y', _, _, _, _, h, _, _, _, _ => absurd h (Nat.not_lt_zero _)
  | n + 1, b, x, y, x', y', Cx, Cy, hxy, lx, hn, bx, bY, hE, cp => by
    have x0 : x ≠ [] := fun e => by rw [e] at hxy; exact Nat.not_lt_zero _ hxy
    have x0' := Cx.ne x0
    by_cases y0 : y = []
    · have e1 : Eg (n + 1) x y = some x := if_pos y0
      have y0' : y' = [] := Classical.byContradiction fun h => Cy.ne' g h y0
      obtain ⟨u, v, c, c0, hc⟩ := cp
      have hu : ∀ z, ev [c] z = ev (trim u) z * ev x' z := fun z => by
        have := hc z
        rw [y0'] at this
        rw [Ei, ← Int.add_zero (ev u z * ev x' z)]
        show c + z * 0 = _
        rw [Int.mul_zero, Int.add_zero, ← this]
        congr 1
        exact Int.mul_zero _
      have tc : Ay [c] := fun z hz => by rw [← Option.some.inj hz]; exact c0
      have u0 : trim u ≠ [] := fun e => by
        have := hu 0
        rw [e] at this
        exact c0 (by have h2 : c + 0 * 0 = 0 * ev x' 0 := this; lia)
      obtain ⟨l, hl⟩ := En u0
      obtain ⟨m, hm⟩ := En x0'
      have h1 := (Ha hm hl).1
      rw [← mul_is (Eb u) Cx.t' tc u0 x0' hu] at h1
      have h2 := List.length_pos_iff.mpr u0
      have h3 := List.length_pos_iff.mpr x0'
      have h4 : x'.length = 1 := by simp only [List.length_cons, List.length_nil] at h1; lia
      obtain ⟨t, rfl⟩ := List.length_eq_one_iff.mp h4
      have t0 : t ≠ 0 := Cx.t' t rfl
      refine ⟨t, t0, e1.trans (congrArg some (Gr Cx.t (Ff t0 g.tr) fun z _ => ?_))⟩
      rw [Cx.e, Ed, Int.mul_comm]
      show (t + z * 0) * _ = _
      rw [Int.mul_zero, Int.add_zero]
    · have y0' := Cy.ne y0
      have lx' := Cx.len g x0'
      have ly' := Cy.len g y0'
      obtain ⟨d, hd⟩ : ∃ d, x.length = y.length + (d + 1) := ⟨x.length - y.length - 1, by lia⟩
      have hx' : x'.length = y'.length + (d + 1) := by lia
      have hc : (1 + γ + b) * (d + 3) * 3 ^ y'.length ≤ E := by
        refine Nat.le_trans ?_ hE
        rw [hx', Nat.pow_add, Nat.mul_assoc, Nat.mul_comm (3 ^ y'.length)]
        exact Nat.mul_le_mul_left _ (Nat.mul_le_mul_right _ (two_le d))
      obtain ⟨r, y1, y1', e1, e2, C1, h1, h2, h3⟩ := gcd_step g hg (k := d + 2) Cx Cy y0 (by lia) (by have := List.length_pos_iff.mpr y0; lia) bx bY (Nat.le_trans (Nat.le_mul_of_pos_right _ (Nat.pow_pos (by decide))) hc) EE lx (by lia) cp
      obtain ⟨t, t0, ht⟩ := gcd_go g hg EE n ((1 + γ + b) * (d + 2) + b) y y1 y' y1' Cy C1 h1 (by lia) (by with_reducible exact ZZ ‹_› ‹_›) (Nat.le_trans bY (Nat.pow_le_pow_right (by decide) (Nat.le_add_left _ _))) h2 (by
        rw [show 1 + γ + ((1 + γ + b) * (d + 2) + b) = (1 + γ + b) * (d + 3) by rw [Nat.mul_add _ (d) 3, Nat.mul_add]; lia]; exact hc) h3
      refine ⟨t, t0, ?_⟩
      have e0 : Eg (n + 1) x y = match Ev x y with
        | some r => (match Es r with
          | some y' => Eg n y y'
          | none => none)
        | none => none := if_neg y0
      rw [e0, e1]
      show (match Es r with | some y' => Eg n y y' | none => none) = _
      rw [e2]; exact ht
theorem gcd_main {G : List Int} (g : Gd G) {γ E b d n : Nat} (hg : n1 G ≤ 2 ^ γ) (EE : E + E ≤ bitsLine) {x y x' y' : List Int} (Cx : Cof G x x') (Cy : Cof G y y') (y0 : y ≠ []) (hd : x.length = y.length + d) (lx : x.length ≤ LIM) (hn : y.length < n) (bx : n1 x' ≤ 2 ^ b) (bY : n1 y' ≤ 2 ^ b)
    (hE : (1 + γ + b) * (d + 2) * 3 ^ y'.length ≤ E) (cp : Cop (ev x') (ev y')) : ∃ t, t ≠ 0 ∧ Eg n x y = some (G.map (t * ·)) := by
  obtain ⟨n, rfl⟩ : ∃ m, n = m + 1 := ⟨n - 1, by lia⟩
  obtain ⟨r, y1, y1', e1, e2, C1, h1, h2, h3⟩ := gcd_step g hg (k := d + 1) Cx Cy y0 (by lia) (by have := List.length_pos_iff.mpr y0; lia) bx bY (Nat.le_trans (Nat.le_mul_of_pos_right _ (Nat.pow_pos (by decide))) hE) EE lx (by lia) cp
  obtain ⟨t, t0, ht⟩ := gcd_go g hg EE n ((1 + γ + b) * (d + 1) + b) y y1 y' y1' Cy C1 h1 (by lia) (by with_reducible exact ZZ ‹_› ‹_›) (Nat.le_trans bY (Nat.pow_le_pow_right (by decide) (Nat.le_add_left _ _))) h2 (by
    rw [show 1 + γ + ((1 + γ + b) * (d + 1) + b) = (1 + γ + b) * (d + 2) by rw [Nat.mul_add _ d 2, Nat.mul_add]; lia]; exact hE) h3
  refine ⟨t, t0, ?_⟩
  have e0 : Eg (n + 1) x y = match Ev x y with
    | some r => (match Es r with
      | some y' => Eg n y y'
      | none => none)
    | none => none := if_neg y0
  rw [e0, e1]
  show (match Es r with | some y' => Eg n y y' | none => none) = _
  rw [e2]; exact ht
theorem Cop.symm {f g : Int → Int} (h : Cop f g) : Cop g f := by
  obtain ⟨u, v, c, c0, hc⟩ := h
  exact ⟨v, u, c, c0, fun x => by rw [Int.add_comm]; exact hc x⟩
theorem gcd_all {G : List Int} (g : Gd G) {γ E b n L : Nat} (hg : n1 G ≤ 2 ^ γ) (EE : E + E ≤ bitsLine) {x y x' y' : List Int} (Cx : Cof G x x') (Cy : Cof G y y') (gx : Gd x) (y0 : y ≠ []) (lx : x.length ≤ L) (ly : y.length ≤ L) (hL : L ≤ LIM) (hn : y.length + 1 < n) (bx : n1 x' ≤ 2 ^ b) (bY : n1 y' ≤ 2 ^ b)
    (hE : y'.length ≤ x'.length → (1 + γ + b) * (L + 2) * 3 ^ y'.length ≤ E) (hE' : x'.length < y'.length → (1 + γ + b) * (L + 2) * 3 ^ x'.length ≤ E) (cp : Cop (ev x') (ev y')) : ∃ t, t ≠ 0 ∧ Eg n x y = some (G.map (t * ·)) := by
  have h1 := Cx.len g (Cx.ne gx.ne)
  have h2 := Cy.len g (Cy.ne y0)
  by_cases h : y.length ≤ x.length
  · refine gcd_main (d := x.length - y.length) g hg EE Cx Cy y0 (by lia) (by with_reducible exact Nat.le_trans ‹_› ‹_›) (by lia) bx bY (Nat.le_trans ?_ (hE (by lia))) cp
    exact Nat.mul_le_mul_right _ (Nat.mul_le_mul_left _ (by lia))
  · obtain ⟨n, rfl⟩ : ∃ m, n = m + 1 := ⟨n - 1, by lia⟩
    have hp : Ev x y = some x := by
      obtain ⟨l, hl⟩ := En y0
      unfold Ev
      rw [if_neg (by lia), hl]
      exact if_pos (Nat.lt_of_not_le h)
    have e0 : Eg (n + 1) x y = Eg n y x := by
      have e0 : Eg (n + 1) x y = match Ev x y with
        | some r => (match Es r with
          | some y' => Eg n y y'
          | none => none)
        | none => none := if_neg y0
      rw [e0, hp]
      show (match Es x with | some y' => Eg n y y' | none => none) = _
      rw [shrink_self gx (by with_reducible exact Nat.le_trans ‹_› ‹_›)]
    rw [e0]
    refine gcd_main (d := y.length - x.length) g hg EE Cy Cx gx.ne (by lia) (by with_reducible exact Nat.le_trans ‹_› ‹_›) (by lia) bY bx (Nat.le_trans ?_ (hE' (by lia))) cp.symm
    exact Nat.mul_le_mul_right _ (Nat.mul_le_mul_left _ (by lia))
theorem gcdP_ok {a b x y G : List Int} (g : Gd G) (sm : Sm G) (hl : G.length ≤ LIM) (ha : primitive a = some x) (hb : primitive b = some y) (h : ∃ t, t ≠ 0 ∧ Eg (y.length + 2) x y = some (G.map (t * ·))) : gcdP a b = some (G.map (((Int.gcd (content a) (content b) : Nat) : Int) * ·)) := by
  obtain ⟨t, t0, ht⟩ := h
  unfold gcdP
  rw [ha, hb]
  show (match Eg (y.length + 2) x y with
    | some z => if z = [] then some [] else (match primitive z with
      | some p => if LIM < p.length then none else Id (Int.gcd (content a) (content b)) p
      | none => none)
    | none => none) = _
  rw [ht]
  show (if G.map (t * ·) = [] then some [] else (match primitive (G.map (t * ·)) with
      | some p => if LIM < p.length then none else Id (Int.gcd (content a) (content b)) p
      | none => none)) = _
  rw [if_neg fun e => g.ne (List.map_eq_nil_iff.mp e), Em g t0 hl]
  show (if LIM < G.length then none else Id _ G) = _
  rw [if_neg (Nat.not_lt_of_le hl)]
  exact if_pos (List.all_eq_true.mpr (sm.r _))
end Mine
end
section
open PySem
namespace Mine
set_option tactic.hygienic false
set_option autoImplicit false
noncomputable def AT : List (List Int) := [[0, 1], [-1, 1], [1, 2], [-2, 0, 1], [1, 1, 1]]
theorem co_three {A q r : List Int} {a b c : Int} (hA : ∀ x, ev A x = ev [a, b, c] x) (h : ∀ x, ev r x = ev A x * ev q x) :
    co r 0 = a * co q 0 ∧ co r 1 = a * co q 1 + b * co q 0 ∧ ∀ n, co r (n + 2) = a * co q (n + 2) + (b * co q (n + 1) + c * co q n) := by
  have hc : ∀ n, co r n = co (pm [a, b, c] q) n := fun n => co_of n fun x _ => by rw [h, hA, Fd]
  have h0 : ∀ n, co [0] n = 0 := fun n => by cases n <;> rfl
  have hp : ∀ n, co (pm [c] q) n = c * co q n := fun n => by
    show co (pa _ [0]) n = _
    rw [co_pa, Ii, h0, Int.add_zero]
  have e1 : ∀ n, co (pm [a, b, c] q) (n + 1) = a * co q (n + 1) + co (pm [b, c] q) n := fun n => by
    show co (pa _ (0 :: _)) (n + 1) = _
    rw [co_pa, Ii]; rfl
  refine ⟨?_, ?_, fun n => ?_⟩
  · rw [hc]
    show co (pa _ (0 :: _)) 0 = _
    rw [co_pa, Ii]; exact Int.add_zero _
  · rw [hc, e1]
    show _ + co (pa _ (0 :: _)) 0 = _
    rw [co_pa, Ii]
    show _ + (_ + 0) = _
    rw [Int.add_zero]
  · rw [hc, e1]
    show _ + co (pa _ (0 :: _)) (n + 1) = _
    rw [co_pa, Ii]
    show _ + (_ + co (pm [c] q) n) = _
    rw [hp]
theorem Gi {c x y z : Int} (h : x = y + z) (hx : c ∣ x) (hy : c ∣ y) : c ∣ z := by
  obtain ⟨p, rfl⟩ := hx
  obtain ⟨q, rfl⟩ := hy
  exact ⟨p - q, by rw [Int.mul_sub]; lia⟩
theorem down {d : Int} {q : List Int} (h : ∀ n, (∀ m, n < m → d ∣ co q m) → d ∣ co q n) : Dv d q := by
  have : ∀ m n, q.length ≤ n + m → d ∣ co q n := by
    intro m
    induction m with
    | zero => exact fun n hn => by rw [co_ge (show q.length ≤ n from hn)]; exact Int.dvd_zero d
    | succ m ih => exact fun n hn => h n fun k hk => ih k (by lia)
  exact fun n => this q.length n (Nat.le_add_left _ _)
theorem gp_two {A : List Int} {a b : Int} (hA : ∀ x, ev A x = ev [a, b, 1] x) (d : Int) (q r : List Int) (h : ∀ x, ev r x = ev A x * ev q x) (hd : Dv d r) : Dv d q := by
  obtain ⟨-, -, h2⟩ := co_three hA h
  refine down fun n hn => ?_
  have h3 := Gi (h2 n) (hd _) (Int.dvd_mul_of_dvd_right (hn _ (by lia)))
  have := Gi rfl h3 (Int.dvd_mul_of_dvd_right (hn _ (by exact Nat.lt_succ_self _)))
  rwa [Int.one_mul] at this
theorem gp_one {A : List Int} {a : Int} (hA : ∀ x, ev A x = ev [a, 1, 0] x) (d : Int) (q r : List Int) (h : ∀ x, ev r x = ev A x * ev q x) (hd : Dv d r) : Dv d q := by
  obtain ⟨-, h1, h2⟩ := co_three hA h
  refine down fun n hn => ?_
  cases n with
  | zero =>
    have := Gi h1 (hd _) (Int.dvd_mul_of_dvd_right (hn _ (by exact Nat.lt_succ_self _)))
    rwa [Int.one_mul] at this
  | succ n =>
    have := Gi (h2 n) (hd _) (Int.dvd_mul_of_dvd_right (hn _ (by exact Nat.lt_succ_self _)))
    rwa [Int.zero_mul, Int.add_zero, Int.one_mul] at this
theorem gp_low {A : List Int} {b : Int} (hA : ∀ x, ev A x = ev [1, b, 0] x) (d : Int) (q r : List Int) (h : ∀ x, ev r x = ev A x * ev q x) (hd : Dv d r) : Dv d q := by
  obtain ⟨h0, h1, h2⟩ := co_three hA h
  rw [Int.one_mul] at h0
  intro n
  induction n with
  | zero => rw [← h0]; exact hd 0
  | succ n ih =>
    cases n with
    | zero =>
      rw [Int.one_mul, Int.add_comm] at h1
      exact Gi h1 (hd 1) (Int.dvd_mul_of_dvd_right ih)
    | succ n =>
      have h3 := h2 n
      rw [Int.zero_mul, Int.add_zero, Int.one_mul, Int.add_comm] at h3
      exact Gi h3 (hd _) (Int.dvd_mul_of_dvd_right ih)
theorem ev_two (a b x : Int) : ev [a, b] x = ev [a, b, 0] x := by
  show a + x * (b + x * 0) = a + x * (b + x * (0 + x * 0))
  simp only [Int.mul_zero, Int.add_zero]
theorem gd_AT : ∀ A ∈ AT, Gd A := by
  intro A hA
  have pos : ∀ {a : List Int} {l : Int}, a.getLast? = some l → 0 < l → ∀ m, a.getLast? = some m → 0 < m := fun h hl m hm => by
    rw [h] at hm; rw [← Option.some.inj hm]; exact hl
  rcases List.mem_cons.mp hA with rfl | hA
  · exact ⟨by decide, pos rfl (by decide), gp_one (ev_two _ _)⟩
  rcases List.mem_cons.mp hA with rfl | hA
  · exact ⟨by decide, pos rfl (by decide), gp_one (ev_two _ _)⟩
  rcases List.mem_cons.mp hA with rfl | hA
  · exact ⟨by decide, pos rfl (by decide), gp_low (ev_two _ _)⟩
  rcases List.mem_cons.mp hA with rfl | hA
  · exact ⟨by decide, pos rfl (by decide), gp_two fun _ => rfl⟩
  rcases List.mem_cons.mp hA with rfl | hA
  · exact ⟨by decide, pos rfl (by decide), gp_two fun _ => rfl⟩
  cases hA
theorem gd_one : Gd [1] := ⟨by decide, fun l h => by rw [← Option.some.inj h]; decide, fun c q r h hd n => by
  rw [← co_of n fun x _ => (h x).trans (by show (1 + x * 0) * _ = _; rw [Int.mul_zero, Int.add_zero, Int.one_mul])]; exact hd n⟩
noncomputable def pw (A : List Int) : Nat → List Int → List Int
  | 0, q => q
  | n + 1, q => pm A (pw A n q)
noncomputable def pb : List (List Int) → List Nat → List Int
  | A :: As, n :: ns => pw A n (pb As ns)
  | _, _ => [1]
noncomputable def pv : List (List Int) → List Nat → Int → Int
  | A :: As, n :: ns, x => ev A x ^ n * pv As ns x
  | _, _, _ => 1
theorem ev_pw (A q : List Int) (x : Int) : ∀ n : Nat, ev (pw A n q) x = ev A x ^ n * ev q x
  | 0 => by rw [Int.pow_zero, Int.one_mul]; rfl
  | n + 1 => by
    show ev (pm A (pw A n q)) x = _
    rw [Fd, ev_pw A q x n, Int.pow_succ, Int.mul_comm (ev A x ^ n) (ev A x), Int.mul_assoc]
theorem ev_one (x : Int) : ev [1] x = 1 := by
  show 1 + x * 0 = 1
  rw [Int.mul_zero]; rfl
theorem Fe (x : Int) : ∀ (As : List (List Int)) (ns : List Nat), ev (pb As ns) x = pv As ns x
  | [], _ => ev_one x
  | _ :: _, [] => ev_one x
  | A :: As, n :: ns => by
    show ev (pw A n (pb As ns)) x = _
    rw [ev_pw, Fe x As ns]; rfl
theorem gd_pw {A q : List Int} (ha : Gd A) (hq : Gd q) : ∀ n, Gd (pw A n q)
  | 0 => hq
  | n + 1 => ha.mul (gd_pw ha hq n)
theorem gd_pb : ∀ {As : List (List Int)}, (∀ A ∈ As, Gd A) → ∀ ns : List Nat, Gd (pb As ns)
  | [], _, _ => gd_one
  | _ :: _, _, [] => gd_one
  | A :: As, h, n :: ns => gd_pw (h A (List.mem_cons_self ..)) (gd_pb (fun B hB => h B (List.mem_cons_of_mem _ hB)) ns) n
theorem n1_pw {A q : List Int} (ha : n1 A ≤ 3) : ∀ n, n1 (pw A n q) ≤ 3 ^ n * n1 q
  | 0 => by rw [Nat.pow_zero, Nat.one_mul]; exact Nat.le_refl _
  | n + 1 => by
    refine Nat.le_trans (n1_pm _ _) (Nat.le_trans (Nat.mul_le_mul ha (n1_pw ha n)) ?_)
    rw [Nat.pow_succ, Nat.mul_comm (3 ^ n) 3, Nat.mul_assoc]; exact Nat.le_refl _
theorem n1_pb : ∀ {As : List (List Int)}, (∀ A ∈ As, n1 A ≤ 3) → ∀ ns : List Nat, n1 (pb As ns) ≤ 3 ^ ns.sum
  | [], _, ns => Nat.one_le_pow _ _ (by decide)
  | _ :: _, _, [] => Nat.le_refl 1
  | A :: As, h, n :: ns => by
    refine Nat.le_trans (n1_pw (h A (List.mem_cons_self ..)) n) ?_
    rw [List.sum_cons, Nat.pow_add]
    exact Nat.mul_le_mul_left _ (n1_pb (fun B hB => h B (List.mem_cons_of_mem _ hB)) ns)
theorem pm_len {A B : List Int} (ha : Gd A) (hb : Gd B) : (pm A B).length + 1 = A.length + B.length := by
  obtain ⟨l, hl⟩ := En ha.ne
  obtain ⟨m, hm⟩ := En hb.ne
  exact (Ha hm hl).1
theorem pw_len {A q : List Int} {d : Nat} (ha : Gd A) (hd : A.length = d + 1) (hq : Gd q) : ∀ n, (pw A n q).length = n * d + q.length
  | 0 => by rw [Nat.zero_mul, Nat.zero_add]; rfl
  | n + 1 => by
    have h1 := pm_len ha (gd_pw ha hq n)
    rw [pw_len ha hd hq n, hd] at h1
    show (pm _ _).length = _
    rw [Nat.succ_mul]; lia
theorem pv_add (x : Int) : ∀ (As : List (List Int)) (ns ms : List Nat), ns.length = ms.length → pv As (List.zipWith (· + ·) ns ms) x = pv As ns x * pv As ms x
  | [], _, _, _ => rfl
  | A :: As, [], [], _ => rfl
  | A :: As, n :: ns, m :: ms, h => by
    show ev A x ^ (n + m) * pv As (List.zipWith (· + ·) ns ms) x = (ev A x ^ n * pv As ns x) * (ev A x ^ m * pv As ms x)
    rw [pv_add x As ns ms (Nat.succ.inj h), Int.pow_add, Int.mul_assoc, Int.mul_assoc, Int.mul_left_comm (ev A x ^ m)]
theorem cop_congr {f f' g : Int → Int} (h : ∀ x, f' x = f x) (c : Cop f g) : Cop f' g := by rw [show f' = f from funext h]; exact c
theorem Ih {f : Int → Int} : Cop (ev [1]) f := ⟨[1], [], 1, by decide, fun x => by
  show ev [1] x * ev [1] x + 0 * f x = 1
  rw [ev_one, Int.zero_mul]; rfl⟩
theorem cop_mul {a b h : List Int} (h1 : Cop (ev a) (ev h)) (h2 : Cop (ev b) (ev h)) : Cop (ev (pm a b)) (ev h) := by
  obtain ⟨u, v, c, c0, hc⟩ := h1
  obtain ⟨u', v', c', c0', hc'⟩ := h2
  refine ⟨pm u u', pa (pm (pm u a) v') (v.map (c' * ·)), c * c', Int.mul_ne_zero c0 c0', fun x => ?_⟩
  rw [← hc x, Fd, Fd, Fv, Fd, Fd, Ed, Int.add_mul, Int.add_mul, Int.mul_assoc c', Int.mul_comm c']
  conv => rhs; lhs; rw [← hc' x]
  rw [Int.mul_add, ← Int.add_assoc]
  congr 1
  congr 1
  · rw [Int.mul_assoc, Int.mul_assoc, Int.mul_left_comm (ev u' x)]
  · rw [Int.mul_assoc]
theorem cop_add {a b q : List Int} {f : Int → Int} (h1 : Cop (ev a) (ev b)) (h : ∀ x, f x = ev b x + ev q x * ev a x) : Cop (ev a) f := by
  obtain ⟨u, v, c, c0, hc⟩ := h1
  refine ⟨pa u ((pm v q).map (-1 * ·)), v, c, c0, fun x => ?_⟩
  rw [← hc x, h, Fv, Ed, Fd, Int.add_mul, Int.mul_add, Int.neg_mul, Int.one_mul, Int.neg_mul, Int.mul_assoc]; lia
theorem cop_scale {a b : List Int} {f : Int → Int} {k : Int} (h1 : Cop (ev a) (ev b)) (k0 : k ≠ 0) (h : ∀ x, f x = k * ev b x) : Cop (ev a) f := by
  obtain ⟨u, v, c, c0, hc⟩ := h1
  refine ⟨u.map (k * ·), v, k * c, Int.mul_ne_zero k0 c0, fun x => ?_⟩
  rw [← hc x, h, Ed, Int.mul_add, Int.mul_assoc, Int.mul_left_comm (ev v x)]
theorem cop_unscale {f g g' : Int → Int} {k : Int} (h1 : Cop f g) (h : ∀ x, g x = k * g' x) : Cop f g' := by
  obtain ⟨u, v, c, c0, hc⟩ := h1
  refine ⟨u, v.map (k * ·), c, c0, fun x => ?_⟩
  rw [← hc x, h, Ed, Int.mul_comm k, Int.mul_assoc]
theorem Fs {a b u v : List Int} {c : Int} (c0 : c ≠ 0) (h : trim (pa (pm u a) (pm v b)) = [c]) : Cop (ev a) (ev b) := ⟨u, v, c, c0, fun x => by
  have h1 : ev (trim (pa (pm u a) (pm v b))) x = ev [c] x := by rw [h]
  rw [Ei, Fv, Fd, Fd] at h1
  rw [h1]
  show c + x * 0 = c
  rw [Int.mul_zero, Int.add_zero]⟩
noncomputable def PC : List (List Int) → Prop
  | [] => True
  | A :: As => (∀ B ∈ As, Cop (ev A) (ev B)) ∧ PC As
theorem pc_AT : PC AT := by
  refine ⟨?_, ?_, ?_, ?_, fun B h => (by cases h), trivial⟩
  · intro B hB
    rcases List.mem_cons.mp hB with rfl | hB
    · exact Fs (u := [1]) (v := [-1]) (c := 1) (by decide) (by decide)
    rcases List.mem_cons.mp hB with rfl | hB
    · exact Fs (u := [-2]) (v := [1]) (c := 1) (by decide) (by decide)
    rcases List.mem_cons.mp hB with rfl | hB
    · exact Fs (u := [0, 1]) (v := [-1]) (c := 2) (by decide) (by decide)
    rcases List.mem_cons.mp hB with rfl | hB
    · exact Fs (u := [-1, -1]) (v := [1]) (c := 1) (by decide) (by decide)
    cases hB
  · intro B hB
    rcases List.mem_cons.mp hB with rfl | hB
    · exact Fs (u := [2]) (v := [-1]) (c := -3) (by decide) (by decide)
    rcases List.mem_cons.mp hB with rfl | hB
    · exact Fs (u := [1, 1]) (v := [-1]) (c := 1) (by decide) (by decide)
    rcases List.mem_cons.mp hB with rfl | hB
    · exact Fs (u := [2, 1]) (v := [-1]) (c := -3) (by decide) (by decide)
    cases hB
  · intro B hB
    rcases List.mem_cons.mp hB with rfl | hB
    · exact Fs (u := [-1, 2]) (v := [-4]) (c := 7) (by decide) (by decide)
    rcases List.mem_cons.mp hB with rfl | hB
    · exact Fs (u := [1, 2]) (v := [-4]) (c := -3) (by decide) (by decide)
    cases hB
  · intro B hB
    rcases List.mem_cons.mp hB with rfl | hB
    · exact Fs (u := [-2, 1]) (v := [3, -1]) (c := 7) (by decide) (by decide)
    cases hB
theorem cop_pw {A q h : List Int} (h1 : Cop (ev A) (ev h)) (h2 : Cop (ev q) (ev h)) : ∀ n, Cop (ev (pw A n q)) (ev h)
  | 0 => h2
  | n + 1 => cop_mul h1 (cop_pw h1 h2 n)
theorem cop_pb {h : List Int} : ∀ {As : List (List Int)}, (∀ B ∈ As, Cop (ev B) (ev h)) → ∀ ns : List Nat, Cop (ev (pb As ns)) (ev h)
  | [], _, _ => Ih
  | _ :: _, _, [] => Ih
  | A :: As, hB, n :: ns => cop_pw (hB A (List.mem_cons_self ..)) (cop_pb (fun B hb => hB B (List.mem_cons_of_mem _ hb)) ns) n
noncomputable def Dj : List Nat → List Nat → Prop
  | n :: ns, m :: ms => (n = 0 ∨ m = 0) ∧ Dj ns ms
  | _, _ => True
theorem cop_dj : ∀ {As : List (List Int)}, PC As → ∀ ns ms : List Nat, Dj ns ms → Cop (ev (pb As ns)) (ev (pb As ms))
  | [], _, _, _, _ => Ih
  | _ :: _, _, [], _, _ => Ih
  | _ :: _, _, _ :: _, [], _ => Ih.symm
  | A :: As, ⟨h1, h2⟩, n :: ns, m :: ms, ⟨h, hd⟩ => by
    have ih := cop_dj h2 ns ms hd
    have ha : ∀ ks, Cop (ev A) (ev (pb As ks)) := fun ks => (cop_pb (fun B hB => (h1 B hB).symm) ks).symm
    rcases h with rfl | rfl
    · exact (cop_pw (ha ns) ih.symm m).symm
    · exact cop_pw (ha ms) ih n
end Mine
end
section
open PySem
namespace Mine
set_option tactic.hygienic false
set_option autoImplicit false
noncomputable def evd : List Int → Int → Int
  | [], _ => 0
  | c :: r, x => ev r x + x * evd r x
noncomputable def dr (a : List Int) : List Int := Hh (· * ·) 1 a.tail
theorem en_ev (x : Int) : ∀ (r : List Int) (n : Nat), ev (Hh (· * ·) n r) x = n * ev r x + x * evd r x
  | [], n => by show 0 = (n : Int) * 0 + x * 0; rw [Int.mul_zero, Int.mul_zero]; rfl
  | c :: r, n => by
    show (n : Int) * c + x * ev (Hh (· * ·) (n + 1) r) x = n * (c + x * ev r x) + x * (ev r x + x * evd r x)
    rw [en_ev x r (n + 1), Int.mul_add, Int.mul_add, Int.mul_add, show ((n + 1 : Nat) : Int) = n + 1 from rfl, Int.add_mul, Int.mul_add, Int.one_mul, Int.mul_left_comm x (n : Int)]; lia
theorem ev_dr (a : List Int) (x : Int) : ev (dr a) x = evd a x := by
  cases a with
  | nil => rfl
  | cons c r =>
    show ev (Hh _ 1 r) x = ev r x + x * evd r x
    rw [en_ev]
    show 1 * _ + _ = _
    rw [Int.one_mul]
theorem enum_len (g : Int → Int → Int) : ∀ (r : List Int) (n : Nat), (Hh g n r).length = r.length
  | [], _ => rfl
  | c :: r, n => congrArg (· + 1) (enum_len g r (n + 1))
theorem enum_tr : ∀ (r : List Int) (n : Nat), Ay r → Ay (Hh (· * ·) (n + 1) r)
  | [], _, _ => Gp
  | [c], n, h => fun z hz => by
    rw [← Option.some.inj hz]
    exact Int.mul_ne_zero (show ((n + 1 : Nat) : Int) ≠ 0 by lia) (h c rfl)
  | c :: d :: r, n, h => fun z hz => enum_tr (d :: r) (n + 1) (fun w hw => h w hw) z hz
theorem range_enum : ∀ (r : List Int) (n : Nat), ((List.range r.length).map fun (i : Nat) => ((n + i : Nat) : Int) * r.getD i 0) = Hh (· * ·) n r
  | [], _ => rfl
  | c :: r, n => by
    show (List.range (r.length + 1)).map _ = ((n : Int) * c) :: Hh (· * ·) (n + 1) r
    rw [List.range_succ_eq_map, List.map_cons, List.map_map, ← range_enum r (n + 1)]
    congr 1
    refine List.map_congr_left fun i _ => ?_
    show ((n + (i + 1) : Nat) : Int) * r.getD i 0 = ((n + 1 + i : Nat) : Int) * r.getD i 0
    rw [Nat.add_comm i 1, Nat.add_assoc]
theorem dl_dr (a : List Int) : dl a = dr a := by
  cases a with
  | nil => rfl
  | cons c r =>
    refine Eq.trans ?_ (range_enum r 1)
    show (List.range (r.length + 1 - 1)).map _ = _
    rw [Nat.add_sub_cancel]
    refine List.map_congr_left fun i _ => ?_
    show ((i : Int) + 1) * r.getD i 0 = ((1 + i : Nat) : Int) * r.getD i 0
    rw [show ((1 + i : Nat) : Int) = (i : Int) + 1 by lia]
theorem Gn {a : List Int} (tr : Ay a) (hl : a.length ≤ LIM) : derivative a = some (dr a) := by
  unfold derivative
  have : (List.range (a.length - 1)).all (fun (i : Nat) => Be ((i : Int) + 1) (a.getD (i + 1) 0)) = true := List.all_eq_true.mpr fun i hi => by
    have h1 := List.mem_range.mp hi
    have h2 : LIM = 1048576 := rfl
    exact Jk (by lia)
  rw [this, if_neg (fun h => h.elim (Nat.not_lt_of_le hl) (fun h => by cases h)), dl_dr]
  refine congrArg some (trim_self ?_)
  cases a with
  | nil => exact Gp
  | cons c r =>
    refine enum_tr r 0 fun z hz => ?_
    cases r with
    | nil => cases hz
    | cons d r => exact tr z hz
theorem evd_pa (x : Int) : ∀ a b : List Int, evd (pa a b) x = evd a x + evd b x
  | [], b => (Int.zero_add _).symm
  | c :: r, [] => (Int.add_zero _).symm
  | c :: r, d :: t => by
    show ev (pa r t) x + x * evd (pa r t) x = (ev r x + x * evd r x) + (ev t x + x * evd t x)
    rw [Fv, evd_pa x r t, Int.mul_add]; lia
theorem evd_map (k x : Int) : ∀ a : List Int, evd (a.map (k * ·)) x = k * evd a x
  | [] => (Int.mul_zero k).symm
  | c :: r => by
    show ev (r.map (k * ·)) x + x * evd (r.map (k * ·)) x = k * (ev r x + x * evd r x)
    rw [Ed, evd_map k x r, Int.mul_add, Int.mul_left_comm]
theorem evd_pm (x : Int) (b : List Int) : ∀ a : List Int, evd (pm a b) x = evd a x * ev b x + ev a x * evd b x
  | [] => by show 0 = 0 * _ + 0 * _; rw [Int.zero_mul, Int.zero_mul]; rfl
  | c :: r => by
    show evd (pa (b.map (c * ·)) (0 :: pm r b)) x = (ev r x + x * evd r x) * ev b x + (c + x * ev r x) * evd b x
    rw [evd_pa, evd_map]
    show _ + (ev (pm r b) x + x * evd (pm r b) x) = _
    rw [Fd, evd_pm x b r, Int.add_mul, Int.add_mul, Int.mul_add, Int.mul_assoc, Int.mul_assoc]; lia
theorem evd_pw (A q : List Int) (x : Int) : ∀ n : Nat, evd (pw A (n + 1) q) x = ev A x ^ n * (((n + 1 : Nat) : Int) * (evd A x * ev q x) + ev A x * evd q x)
  | 0 => by
    show evd (pm A q) x = ev A x ^ 0 * (1 * _ + _)
    rw [evd_pm, Int.pow_zero, Int.one_mul, Int.one_mul]
  | n + 1 => by
    show evd (pm A (pw A (n + 1) q)) x = _
    rw [evd_pm, evd_pw A q x n, ev_pw, Int.mul_left_comm (evd A x), ← Int.mul_assoc (ev A x), Int.mul_comm (ev A x) (ev A x ^ n), ← Int.pow_succ, ← Int.mul_add, ← Int.add_assoc]
    congr 2
    rw [show ((n + 1 + 1 : Nat) : Int) = 1 + ((n + 1 : Nat) : Int) by lia, Int.add_mul, Int.one_mul]
noncomputable def dL : List (List Int) → List Nat → List Int
  | _ :: As, 0 :: ns => dL As ns
  | A :: As, (n + 1) :: ns => pa (pm A (dL As ns)) ((pm (dr A) (pb As (ns.map (min · 1)))).map (((n + 1 : Nat) : Int) * ·))
  | _, _ => []
theorem pv_split (x : Int) : ∀ (As : List (List Int)) (ns : List Nat), pv As ns x = pv As (ns.map (· - 1)) x * pv As (ns.map (min · 1)) x
  | [], _ => rfl
  | _ :: _, [] => rfl
  | A :: As, n :: ns => by
    show ev A x ^ n * pv As ns x = (ev A x ^ (n - 1) * pv As (ns.map (· - 1)) x) * (ev A x ^ (min n 1) * pv As (ns.map (min · 1)) x)
    rw [pv_split x As ns, Int.mul_assoc (ev A x ^ (n - 1)), Int.mul_left_comm (pv As (ns.map (· - 1)) x), ← Int.mul_assoc (ev A x ^ (n - 1)), ← Int.pow_add, show n - 1 + min n 1 = n by lia]
theorem evd_pb (x : Int) : ∀ (As : List (List Int)) (ns : List Nat), evd (pb As ns) x = pv As (ns.map (· - 1)) x * ev (dL As ns) x
  | [], ns => by show 0 + x * 0 = 1 * 0; rw [Int.mul_zero]; rfl
  | _ :: _, [] => by show 0 + x * 0 = 1 * 0; rw [Int.mul_zero]; rfl
  | A :: As, 0 :: ns => by
    show evd (pb As ns) x = (ev A x ^ 0 * pv As (ns.map (· - 1)) x) * ev (dL As ns) x
    rw [evd_pb x As ns, Int.pow_zero, Int.one_mul]
  | A :: As, (n + 1) :: ns => by
    show evd (pw A (n + 1) (pb As ns)) x = (ev A x ^ n * pv As (ns.map (· - 1)) x) * ev (pa _ _) x
    rw [evd_pw, Fv, Fd, Ed, Fd, ev_dr, Fe, Fe, evd_pb x As ns, pv_split x As ns, Int.mul_assoc, Int.mul_add, Int.mul_left_comm (ev A x) (pv As _ x), Int.mul_left_comm (evd A x) (pv As _ x), Int.mul_left_comm _ (pv As _ x), Int.add_comm, ← Int.mul_add, ← Int.mul_add]
theorem n1_dL : ∀ {As : List (List Int)} {ns : List Nat}, (∀ A ∈ As, n1 A ≤ 3 ∧ n1 (dr A) ≤ 3) → (∀ n ∈ ns, n ≤ 9) → ns.length = As.length → n1 (dL As ns) ≤ 27 * (As.length * 3 ^ As.length)
  | [], ns, _, _, _ => Nat.zero_le _
  | _ :: _, [], _, _, h => by cases h
  | A :: As, 0 :: ns, hA, hn, h => by
    refine Nat.le_trans (n1_dL (As := As) (ns := ns) (fun B hB => hA B (List.mem_cons_of_mem _ hB)) (fun n hm => hn n (List.mem_cons_of_mem _ hm)) (Nat.succ.inj h)) (Nat.mul_le_mul_left _ (Nat.mul_le_mul (Nat.le_succ _) ?_))
    exact Nat.pow_le_pow_right (by decide) (Nat.le_succ _)
  | A :: As, (n + 1) :: ns, hA, hn, h => by
    have ih := n1_dL (As := As) (ns := ns) (fun B hB => hA B (List.mem_cons_of_mem _ hB)) (fun n hm => hn n (List.mem_cons_of_mem _ hm)) (Nat.succ.inj h)
    have h0 := hA A (List.mem_cons_self ..)
    have hw : n1 (pb As (ns.map (min · 1))) ≤ 3 ^ As.length := by
      refine Nat.le_trans (n1_pb (fun B hB => (hA B (List.mem_cons_of_mem _ hB)).1) _) (Nat.pow_le_pow_right (by decide) ?_)
      rw [← Nat.succ.inj h]
      clear h ih hn
      induction ns with
      | nil => exact Nat.le_refl _
      | cons m ms ih => rw [List.map_cons, List.sum_cons, List.length_cons]; lia
    show n1 (pa _ _) ≤ 27 * ((As.length + 1) * 3 ^ (As.length + 1))
    refine Nat.le_trans (n1_pa _ _) ?_
    rw [Iy]
    have h1 := Nat.le_trans (n1_pm (dL As ns) A) (Nat.mul_le_mul h0.1 ih)
    have h2 := Nat.le_trans (n1_pm (pb As (ns.map (min · 1))) (dr A)) (Nat.mul_le_mul h0.2 hw)
    have h3 := hn (n + 1) (List.mem_cons_self ..)
    have h4 := Nat.mul_le_mul (show (((n + 1 : Nat) : Int)).natAbs ≤ 9 from h3) h2
    rw [Nat.add_mul, Nat.pow_succ, ← Nat.mul_assoc As.length]
    lia
theorem cop_wd : ∀ {As : List (List Int)}, PC As → (∀ A ∈ As, Cop (ev A) (ev (dr A))) → ∀ ns : List Nat, Cop (ev (pb As (ns.map (min · 1)))) (ev (dL As ns))
  | [], _, _, _ => Ih
  | _ :: _, _, _, [] => Ih
  | A :: As, ⟨_, h2⟩, hd, 0 :: ns => cop_wd h2 (fun B hB => hd B (List.mem_cons_of_mem _ hB)) ns
  | A :: As, ⟨h1, h2⟩, hd, (n + 1) :: ns => by
    have ih := cop_wd h2 (fun B hB => hd B (List.mem_cons_of_mem _ hB)) ns
    have hA := hd A (List.mem_cons_self ..)
    have hw : Cop (ev (pb As (ns.map (min · 1)))) (ev A) := cop_pb (fun B hB => (h1 B hB).symm) _
    rw [List.map_cons, show min (n + 1) 1 = 1 by lia]
    show Cop (ev (pm A (pb As (ns.map (min · 1))))) (ev (pa _ _))
    refine cop_mul ?_ ?_
    · refine cop_add (q := dL As ns) (cop_scale (k := ((n + 1 : Nat) : Int)) (cop_mul hA.symm hw).symm (by lia) fun x => Ed _ _ _) fun x => ?_
      rw [Fv, Fd (a := A), Int.add_comm, Int.mul_comm (ev A x)]
    · refine cop_add (q := (dr A).map (((n + 1 : Nat) : Int) * ·)) (cop_mul hw.symm ih.symm).symm fun x => ?_
      rw [Fv, Ed, Ed, Fd (x := x) (a := dr A), Int.mul_assoc]
theorem cd_AT : ∀ A ∈ AT, Cop (ev A) (ev (dr A)) := by
  intro B hB
  rcases List.mem_cons.mp hB with rfl | hB
  · exact Fs (u := []) (v := [1]) (c := 1) (by decide) (by decide)
  rcases List.mem_cons.mp hB with rfl | hB
  · exact Fs (u := []) (v := [1]) (c := 1) (by decide) (by decide)
  rcases List.mem_cons.mp hB with rfl | hB
  · exact Fs (u := []) (v := [1]) (c := 2) (by decide) (by decide)
  rcases List.mem_cons.mp hB with rfl | hB
  · exact Fs (u := [-2]) (v := [0, 1]) (c := 4) (by decide) (by decide)
  rcases List.mem_cons.mp hB with rfl | hB
  · exact Fs (u := [-4]) (v := [1, 2]) (c := -3) (by decide) (by decide)
  cases hB
end Mine
end
section
open PySem
namespace Mine
set_option tactic.hygienic false
set_option autoImplicit false
noncomputable abbrev PB (ns : List Nat) : List Int := pb AT ns
structure Bg (ns : List Nat) : Prop where
  len : ns.length = 5
  sum : ns.sum ≤ 9
theorem five {ns : List Nat} (h : ns.length = 5) : ∃ a b c d e, ns = [a, b, c, d, e] := by
  match ns, h with
  | [a, b, c, d, e], _ => exact ⟨a, b, c, d, e, rfl⟩
theorem gdP (ns : List Nat) : Gd (PB ns) := gd_pb gd_AT ns
theorem at3 : ∀ A ∈ AT, n1 A ≤ 3 ∧ n1 (dr A) ≤ 3 := by decide
theorem n1P (ns : List Nat) : n1 (PB ns) ≤ 3 ^ ns.sum := n1_pb (fun A hA => (at3 A hA).1) ns
theorem n1_15 {ns : List Nat} (h : ns.sum ≤ 9) : n1 (PB ns) ≤ 2 ^ 15 := Nat.le_trans (n1P ns) (Nat.le_trans (Nat.pow_le_pow_right (by decide) h) (by decide))
theorem smP {ns : List Nat} (h : ns.sum ≤ 9) : Sm (PB ns) := Nat.lt_of_le_of_lt (n1_15 h) (by decide)
theorem lenP (a b c d e : Nat) : (PB [a, b, c, d, e]).length = a + b + c + 2 * d + 2 * e + 1 := by
  have h := gd_AT
  have g0 : Gd [0, 1] := h _ (List.mem_cons_self ..)
  have g1 : Gd [-1, 1] := h _ (List.mem_cons_of_mem _ (List.mem_cons_self ..))
  have g2 : Gd [1, 2] := h _ (List.mem_cons_of_mem _ (List.mem_cons_of_mem _ (List.mem_cons_self ..)))
  have g3 : Gd [-2, 0, 1] := h _ (List.mem_cons_of_mem _ (List.mem_cons_of_mem _ (List.mem_cons_of_mem _ (List.mem_cons_self ..))))
  have g4 : Gd [1, 1, 1] := h _ (List.mem_cons_of_mem _ (List.mem_cons_of_mem _ (List.mem_cons_of_mem _ (List.mem_cons_of_mem _ (List.mem_cons_self ..)))))
  show (pw _ a (pw _ b (pw _ c (pw _ d (pw _ e [1]))))).length = _
  have q4 := gd_pw g4 gd_one e
  have q3 := gd_pw g3 q4 d
  have q2 := gd_pw g2 q3 c
  have q1 := gd_pw g1 q2 b
  rw [pw_len g0 (d := 1) rfl q1, pw_len g1 (d := 1) rfl q2, pw_len g2 (d := 1) rfl q3, pw_len g3 (d := 2) rfl q4, pw_len g4 (d := 2) rfl gd_one]
  show _ + (_ + (_ + (_ + (_ + 1)))) = _
  lia
theorem Ik {ns : List Nat} (h : Bg ns) : (PB ns).length ≤ 19 := by
  obtain ⟨a, b, c, d, e, rfl⟩ := five h.len
  have := h.sum
  rw [lenP]
  simp only [List.sum_cons, List.sum_nil] at this
  lia
theorem lenL {ns : List Nat} (h : Bg ns) : (PB ns).length ≤ LIM := Nat.le_trans (Ik h) (by decide)
theorem pv_zw (x : Int) {f g : Nat → Nat → Nat} (h : ∀ n m, f n m + g n m = n) : ∀ (As : List (List Int)) (ns ms : List Nat), ns.length = ms.length → pv As ns x = pv As (List.zipWith f ns ms) x * pv As (List.zipWith g ns ms) x
  | [], _, _, _ => rfl
  | A :: As, [], [], _ => rfl
  | A :: As, n :: ns, m :: ms, hl => by
    show ev A x ^ n * pv As ns x = (ev A x ^ f n m * pv As (List.zipWith f ns ms) x) * (ev A x ^ g n m * pv As (List.zipWith g ns ms) x)
    rw [pv_zw x h As ns ms (Nat.succ.inj hl), Int.mul_assoc (ev A x ^ f n m), Int.mul_left_comm (pv As (List.zipWith f ns ms) x), ← Int.mul_assoc (ev A x ^ f n m), ← Int.pow_add, h]
theorem sum_zw {f : Nat → Nat → Nat} (h : ∀ n m, f n m ≤ n) : ∀ ns ms : List Nat, (List.zipWith f ns ms).sum ≤ ns.sum
  | [], _ => Nat.le_refl _
  | _ :: _, [] => Nat.zero_le _
  | n :: ns, m :: ms => by
    rw [List.zipWith_cons_cons, List.sum_cons, List.sum_cons]
    exact Nat.add_le_add (h n m) (sum_zw h ns ms)
theorem bg_zw {f : Nat → Nat → Nat} (h : ∀ n m, f n m ≤ n) {ns ms : List Nat} (hn : Bg ns) (hm : ms.length = 5) : Bg (List.zipWith f ns ms) :=
  ⟨by rw [List.length_zipWith, hn.len, hm]; rfl, Nat.le_trans (sum_zw h ns ms) hn.sum⟩
noncomputable def mn (ns ms : List Nat) : List Nat := List.zipWith min ns ms
noncomputable def sb (ns ms : List Nat) : List Nat := List.zipWith (· - ·) ns ms
theorem bg_mn {ns ms : List Nat} (hn : Bg ns) (hm : ms.length = 5) : Bg (mn ns ms) := bg_zw (fun n m => Nat.min_le_left n m) hn hm
theorem bg_sb {ns ms : List Nat} (hn : Bg ns) (hm : ms.length = 5) : Bg (sb ns ms) := bg_zw (fun n m => Nat.sub_le n m) hn hm
theorem cof_ms {ns ms : List Nat} (h : ns.length = ms.length) : Cof (PB (mn ns ms)) (PB ns) (PB (sb ns ms)) :=
  ⟨(gdP _).tr, (gdP _).tr, fun x => by rw [Fe, Fe, Fe]; exact pv_zw x (fun n m => by lia) AT ns ms h⟩
theorem mn_comm (ns ms : List Nat) : mn ms ns = mn ns ms := List.zipWith_comm_of_comm Nat.min_comm
theorem dj_sb : ∀ ns ms : List Nat, Dj (sb ns ms) (sb ms ns)
  | [], [] => trivial
  | [], _ :: _ => trivial
  | _ :: _, [] => trivial
  | n :: ns, m :: ms => ⟨show n - m = 0 ∨ m - n = 0 by lia, dj_sb ns ms⟩
noncomputable def EE : Nat := 67108864
theorem EE2 : EE + EE ≤ bitsLine := by decide
theorem EE_le {c n : Nat} (hc : c ≤ 32) (hn : n ≤ 8) : c * (19 + 2) * 3 ^ n ≤ EE :=
  Nat.le_trans (Nat.mul_le_mul (Nat.mul_le_mul_right _ hc) (Nat.pow_le_pow_right (by decide) hn)) (by decide)
theorem gcd_bags {ns ms : List Nat} (hn : Bg ns) (hm : Bg ms) (hs : (PB (sb ns ms)).length ≤ 8 ∨ (PB (sb ms ns)).length ≤ 8) :
    ∃ t, t ≠ 0 ∧ Eg ((PB ms).length + 2) (PB ns) (PB ms) = some ((PB (mn ns ms)).map (t * ·)) := by
  have C2 := cof_ms (ns := ms) (ms := ns) (hm.len.trans hn.len.symm)
  rw [mn_comm] at C2
  exact gcd_all (γ := 15) (b := 15) (L := 19) (gdP _) (n1_15 (bg_mn hn hm.len).sum) EE2 (cof_ms (hn.len.trans hm.len.symm)) C2 (gdP _) (gdP _).ne (Ik hn) (Ik hm) (by decide) (Nat.lt_succ_self _)
    (n1_15 (bg_sb hn hm.len).sum) (n1_15 (bg_sb hm hn.len).sum) (fun h => EE_le (by decide) (by lia)) (fun h => EE_le (by decide) (by lia)) (cop_dj pc_AT _ _ (dj_sb ns ms))
theorem gcdP_bags {ns ms : List Nat} (hn : Bg ns) (hm : Bg ms) (hs : (PB (sb ns ms)).length ≤ 8 ∨ (PB (sb ms ns)).length ≤ 8) {k m : Int} (k0 : k ≠ 0) (m0 : m ≠ 0) :
    gcdP ((PB ns).map (k * ·)) ((PB ms).map (m * ·)) = some ((PB (mn ns ms)).map (((Int.gcd k m : Nat) : Int) * ·)) := by
  have h := gcdP_ok (gdP _) (smP (bg_mn hn hm.len).sum) (lenL (bg_mn hn hm.len)) (Em (gdP ns) k0 (lenL hn)) (Em (gdP ms) m0 (lenL hm)) (gcd_bags hn hm hs)
  rwa [Fi (gdP ns), Fi (gdP ms)] at h
theorem gcdP_bags1 {ns ms : List Nat} (hn : Bg ns) (hm : Bg ms) (hs : (PB (sb ns ms)).length ≤ 8 ∨ (PB (sb ms ns)).length ≤ 8) : gcdP (PB ns) (PB ms) = some (PB (mn ns ms)) := by
  have h := gcdP_bags hn hm hs (k := 1) (m := 1) (by decide) (by decide)
  rw [Ga, Ga] at h
  exact h.trans (congrArg some (Ga _))
theorem divideP_ok {a b : List Int} (ha : Ay a) (a0 : a ≠ []) (hb : Ay b) (b0 : b ≠ []) (la : a.length < LIM) (lb : b.length ≤ LIM) (hm : Sm b) :
    (∀ g, Ay g → (∀ x, ev a x = ev g x * ev b x) → Ec a b = some (some g)) ∧ ((¬ ∃ g, ∀ x, ev a x = ev g x * ev b x) → Ec a b = some none) := by
  have e : Ec a b = exdiv a b := (if_neg b0).trans (if_neg a0)
  rw [e]
  exact exdiv_ok ha hb b0 la lb hm.r
theorem div_one {ns ms : List Nat} (hn : Bg ns) (hm : Bg ms) {r : List Nat} (h : ∀ x, pv AT ns x = pv AT r x * pv AT ms x) : Ec (PB ns) (PB ms) = some (some (PB r)) :=
  (divideP_ok (gdP ns).tr (gdP ns).ne (gdP ms).tr (gdP ms).ne (Nat.lt_of_le_of_lt (Ik hn) (by decide)) (lenL hm) (smP hm.sum)).1 _ (gdP r).tr fun x => by rw [Fe, Fe, Fe]; exact h x
theorem primitive_gen {a : List Int} (tr : Ay a) (a0 : a ≠ []) (hl : a.length ≤ LIM) : ∃ c, c ≠ 0 ∧ Dv c a ∧ primitive a = some (a.map (·.fdiv c)) := by
  obtain ⟨hg, -⟩ := shrink_ok hl tr a0
  have h1 : content a ≠ 0 ∧ Dv (content a) a := by
    obtain ⟨l, hl⟩ := En a0
    have e : content a = if l > 0 then Eu a 0 else -Eu a 0 := by unfold content; rw [hl]
    rw [e]
    by_cases h : l > 0
    · rw [if_pos h]; exact ⟨hg, Jc a⟩
    · rw [if_neg h]; exact ⟨by lia, fun n => Int.neg_dvd.mpr (Jc a n)⟩
  refine ⟨content a, h1.1, h1.2, ?_⟩
  unfold primitive
  rw [if_neg a0, if_neg fun h => h.elim h1.1 (Nat.not_lt_of_le hl)]
theorem sum_map {f : Nat → Nat} (h : ∀ n, f n ≤ n) : ∀ ns : List Nat, (ns.map f).sum ≤ ns.sum
  | [] => Nat.le_refl _
  | n :: ns => by
    rw [List.map_cons, List.sum_cons, List.sum_cons]
    exact Nat.add_le_add (h n) (sum_map h ns)
theorem Jd {f : Nat → Nat} (h : ∀ n, f n ≤ n) {ns : List Nat} (hn : Bg ns) : Bg (ns.map f) := ⟨by rw [List.length_map]; exact hn.len, Nat.le_trans (sum_map h ns) hn.sum⟩
theorem le_sum : ∀ {ns : List Nat} {n : Nat}, n ∈ ns → n ≤ ns.sum
  | m :: ns, n, h => by
    rw [List.sum_cons]
    rcases List.mem_cons.mp h with rfl | h
    · exact Nat.le_add_right _ _
    · exact Nat.le_trans (le_sum h) (Nat.le_add_left _ _)
theorem len8 {ns : List Nat} (h : ns.length = 5) (h1 : ∀ n ∈ ns, n ≤ 1) : (PB ns).length ≤ 8 := by
  obtain ⟨a, b, c, d, e, rfl⟩ := five h
  rw [lenP]
  have h1 : a ≤ 1 ∧ b ≤ 1 ∧ c ≤ 1 ∧ d ≤ 1 ∧ e ≤ 1 := by simpa using h1
  lia
theorem sf_start {ns : List Nat} (hn : Bg ns) (h2 : 2 ≤ (PB ns).length) : gcdP (PB ns) (dr (PB ns)) = some (PB (ns.map (· - 1))) := by
  have hG := Jd (f := (· - 1)) (fun n => Nat.sub_le n 1) hn
  have hW := Jd (f := (min · 1)) (fun n => Nat.min_le_left n 1) hn
  have hl : (dr (PB ns)).length = (PB ns).length - 1 := by
    unfold dr; rw [enum_len, List.length_tail]
  have d0 : dr (PB ns) ≠ [] := fun e => by rw [e] at hl; simp only [List.length_nil] at hl; lia
  have dt : Ay (dr (PB ns)) := by
    have := Gn (gdP ns).tr (lenL hn)
    unfold derivative at this
    by_cases h : LIM < (PB ns).length ∨ (!(List.range ((PB ns).length - 1)).all fun (i : Nat) => Be ((i : Int) + 1) ((PB ns).getD (i + 1) 0)) = true
    · rw [if_pos h] at this; cases this
    · rw [if_neg h] at this; rw [← Option.some.inj this]; exact Eb _
  have dl : (dr (PB ns)).length ≤ 19 := by have := Ik hn; lia
  obtain ⟨c, c0, hd, hp⟩ := primitive_gen dt d0 (Nat.le_trans dl (by decide))
  have CP : Cof (PB (ns.map (· - 1))) (PB ns) (PB (ns.map (min · 1))) := ⟨(gdP _).tr, (gdP _).tr, fun x => by rw [Fe, Fe, Fe]; exact pv_split x AT ns⟩
  have CD : Cof (PB (ns.map (· - 1))) (dr (PB ns)) (trim (dL AT ns)) := ⟨dt, Eb _, fun x => by rw [Ei, ev_dr, Fe]; exact evd_pb x AT ns⟩
  obtain ⟨hd', C2⟩ := cof_div (gdP _) CD c0 hd
  have y0 : (dr (PB ns)).map (·.fdiv c) ≠ [] := fun e => d0 (List.map_eq_nil_iff.mp e)
  have hcop : Cop (ev (PB (ns.map (min · 1)))) (ev ((trim (dL AT ns)).map (·.fdiv c))) := by
    have h1 := cop_wd pc_AT cd_AT ns
    refine cop_unscale h1 (k := c) fun x => ?_
    rw [← hd'.ev, Ei]
  have hW8 : (PB (ns.map (min · 1))).length ≤ 8 := len8 hW.len fun n h => by
    obtain ⟨m, _, rfl⟩ := List.mem_map.mp h
    exact Nat.min_le_right m 1
  have hb : n1 ((trim (dL AT ns)).map (·.fdiv c)) ≤ 2 ^ 16 :=
    Nat.le_trans (hd'.n1 c0) (Nat.le_trans (n1_trim _) (Nat.le_trans (n1_dL at3 (fun n h => Nat.le_trans (le_sum h) hn.sum) hn.len) (by decide)))
  have := gcd_all (γ := 15) (b := 16) (L := 19) (n := ((dr (PB ns)).map (·.fdiv c)).length + 2) (gdP _) (n1_15 hG.sum) EE2 CP C2 (gdP ns) y0 (Ik hn) (by rw [List.length_map]; exact dl) (by decide) (Nat.lt_succ_self _)
    (Nat.le_trans (n1_15 hW.sum) (by decide)) hb (fun h => EE_le (by decide) (by with_reducible exact Nat.le_trans ‹_› ‹_›)) (fun h => EE_le (by decide) (by assumption)) hcop
  have h := gcdP_ok (gdP _) (smP hG.sum) (lenL hG) (Fz (gdP ns) (lenL hn)) hp this
  rw [content_self (gdP ns)] at h
  rw [h, show Int.gcd 1 (content (dr (PB ns))) = 1 from Nat.gcd_one_left _]
  exact congrArg some (Ga _)
end Mine
end
section
open PySem
namespace Mine
set_option tactic.hygienic false
set_option autoImplicit false
noncomputable def geN (i e : Nat) : Nat := if i ≤ e then 1 else 0
noncomputable def eqN (i e : Nat) : Nat := if e = i then 1 else 0
noncomputable def rrT (f : Nat) (b2 : List Int) (low high : Int) : Option Int := match derivative b2 with
  | none => none
  | some d2 => match Ij f [] b2 d2 with
    | none => none
    | some L => match Gg L low, Gg L high with
      | some u, some v => some (u - v)
      | _, _ => none
noncomputable def chkL (ms : List Nat) (L : List (List Int)) : Bool := [(-3 : Int), -2, -1, 0, 1, 2].all fun low => match Gg L low with
  | none => false
  | some u => [(0 : Int), 1, 2, 3].all fun d => match Gg L (low + 1 + d) with
    | some v => u - v == Fj low (low + 1 + d) Io (ms.map fun (n : Nat) => (n : Int)) 0
    | none => false
noncomputable def chkR (ms : List Nat) : Bool := match derivative (PB ms) with
  | none => false
  | some d2 => match Ij 64 [] (PB ms) d2 with
    | none => false
    | some L => chkL ms L
noncomputable def bit : List Nat := [0, 1]
theorem chk_all : (bit.all fun a => bit.all fun b => bit.all fun c => bit.all fun d => bit.all fun e => a + b + c + d + e == 0 || chkR [a, b, c, d, e]) = true := by decide +kernel
end Mine
end
section
open PySem
namespace Mine
set_option tactic.hygienic false
set_option autoImplicit false
theorem zw_map {f g h : Nat → Nat} {op : Nat → Nat → Nat} (e : ∀ n, op (f n) (g n) = h n) : ∀ ns : List Nat, List.zipWith op (ns.map f) (ns.map g) = ns.map h
  | [] => rfl
  | n :: ns => by rw [List.map_cons, List.map_cons, List.zipWith_cons_cons, List.map_cons, e, zw_map e ns]
theorem pv_map {f g h : Nat → Nat} (e : ∀ n, f n + g n = h n) {ns : List Nat} (x : Int) : pv AT (ns.map h) x = pv AT (ns.map f) x * pv AT (ns.map g) x := by
  rw [← zw_map (op := (· + ·)) e, pv_add x AT _ _ (by rw [List.length_map, List.length_map])]
theorem len_one {ns : List Nat} (h : ns.length = 5) : 1 < (PB ns).length ↔ ∃ e ∈ ns, e ≠ 0 := by
  obtain ⟨a, b, c, d, e, rfl⟩ := five h
  rw [lenP]
  simp only [List.mem_cons, List.not_mem_nil, or_false, exists_eq_or_imp, exists_eq_left]
  lia
theorem sum_len {ns : List Nat} (h : ns.length = 5) : ns.sum < (PB ns).length := by
  obtain ⟨a, b, c, d, e, rfl⟩ := five h
  rw [lenP]
  simp only [List.sum_cons, List.sum_nil]
  lia
theorem ge_le (i n : Nat) (hi : 1 ≤ i) : geN i n ≤ n := by unfold geN; split <;> (first | with_reducible exact Nat.le_trans ‹_› ‹_› | exact Nat.zero_le _)
theorem ge_1 (i n : Nat) : geN i n ≤ 1 := by unfold geN; split <;> (first | exact Nat.le_refl _ | exact Nat.zero_le _)
noncomputable def gr (ns : List Nat) (h : Nat) : List (List Int × Int) := if h ∈ ns then [(PB (ns.map (eqN h)), (h : Int))] else []
theorem sf_go {ns : List Nat} (hn : Bg ns) : ∀ (n i j : Nat) (out : List (List Int × Int)), 1 ≤ n → 1 ≤ i → (∀ e ∈ ns, e + 1 < n + i) → (∀ e ∈ ns, e < i + j) → out.length + j < LIM →
    Fl n (PB (ns.map (geN i))) (PB (ns.map (· - i))) (i : Int) out = some (out ++ (List.range' i j).flatMap (gr ns))
  | 0, i, j, out, h, _, _, _, _ => absurd h (Nat.not_lt_zero _)
  | n + 1, i, j, out, _, hi, hf, hj, ho => by
    have bw := Jd (f := geN i) (fun m => ge_le i m hi) hn
    have bg := Jd (f := (· - i)) (fun m => Nat.sub_le m i) hn
    have by' := Jd (f := geN (i + 1)) (fun m => ge_le (i + 1) m (by exact Nat.le_add_left _ _)) hn
    by_cases hw : 1 < (PB (ns.map (geN i))).length
    · obtain ⟨e', he', h0⟩ := (len_one bw.len).mp hw
      obtain ⟨e, he, rfl⟩ := List.mem_map.mp he'
      have hie : i ≤ e := by unfold geN at h0; split at h0 <;> (first | assumption | lia)
      have h1 := hf e he
      have h2 := hj e he
      obtain ⟨j, rfl⟩ : ∃ k, j = k + 1 := ⟨j - 1, by lia⟩
      have hg : gcdP (PB (ns.map (geN i))) (PB (ns.map (· - i))) = some (PB (ns.map (geN (i + 1)))) := by
        have := gcdP_bags1 bw bg (.inl (len8 (by unfold sb; rw [List.length_zipWith, bw.len, bg.len]; rfl) fun m hm => by
          unfold sb at hm
          rw [zw_map (h := fun n => geN i n - (n - i)) (fun _ => rfl)] at hm
          obtain ⟨k, _, rfl⟩ := List.mem_map.mp hm
          have := ge_1 i k
          exact Nat.le_trans (Nat.sub_le _ _) ‹_›))
        unfold mn at this
        rw [zw_map (h := geN (i + 1)) (fun n => by unfold geN; split <;> split <;> (first | lia | exact rfl))] at this
        exact this
      have hz := div_one (r := ns.map (eqN i)) bw by' fun x => pv_map (fun n => by unfold geN eqN; split <;> split <;> split <;> (first | exact Nat.add_comm _ _ | lia)) x
      have hq := div_one (r := ns.map (· - (i + 1))) bg by' fun x => pv_map (fun n => by show n - (i + 1) + geN (i + 1) n = n - i; unfold geN; split <;> lia) x
      have hlz : 1 < (PB (ns.map (eqN i))).length ↔ i ∈ ns := by
        rw [len_one (by rw [List.length_map]; exact hn.len)]
        refine ⟨fun ⟨m, hm, h0⟩ => ?_, fun h => ⟨eqN i i, List.mem_map_of_mem h, by unfold eqN; rw [if_pos rfl]; decide⟩⟩
        obtain ⟨k, hk, rfl⟩ := List.mem_map.mp hm
        unfold eqN at h0
        by_cases q : k = i
        · rw [← q]; exact hk
        · rw [if_neg q] at h0; exact absurd rfl h0
      have e0 : Fl (n + 1) (PB (ns.map (geN i))) (PB (ns.map (· - i))) (i : Int) out = match gcdP (PB (ns.map (geN i))) (PB (ns.map (· - i))) with
        | some d => (match primitive d with
          | some y => (match Ec (PB (ns.map (geN i))) y, Ec (PB (ns.map (· - i))) y with
            | some (some z), some (some g') => if LIM ≤ out.length then none else Fl n y g' ((i : Int) + 1) (if 1 < z.length then out ++ [(z, (i : Int))] else out)
            | _, _ => none)
          | none => none)
        | none => none := if_neg (not_not_intro hw)
      rw [e0, hg]
      show (match primitive (PB (ns.map (geN (i + 1)))) with
          | some y => (match Ec (PB (ns.map (geN i))) y, Ec (PB (ns.map (· - i))) y with
            | some (some z), some (some g') => if LIM ≤ out.length then none else Fl n y g' ((i : Int) + 1) (if 1 < z.length then out ++ [(z, (i : Int))] else out)
            | _, _ => none)
          | none => none) = _
      rw [Fz (gdP _) (lenL by')]
      show (match Ec (PB (ns.map (geN i))) (PB (ns.map (geN (i + 1)))), Ec (PB (ns.map (· - i))) (PB (ns.map (geN (i + 1)))) with
            | some (some z), some (some g') => if LIM ≤ out.length then none else Fl n (PB (ns.map (geN (i + 1)))) g' ((i : Int) + 1) (if 1 < z.length then out ++ [(z, (i : Int))] else out)
            | _, _ => none) = _
      rw [hz, hq]
      show (if LIM ≤ out.length then none else Fl n (PB (ns.map (geN (i + 1)))) (PB (ns.map (· - (i + 1)))) ((i + 1 : Nat) : Int) (if 1 < (PB (ns.map (eqN i))).length then out ++ [(PB (ns.map (eqN i)), (i : Int))] else out)) = _
      have hout : (if 1 < (PB (ns.map (eqN i))).length then out ++ [(PB (ns.map (eqN i)), (i : Int))] else out) = out ++ gr ns i := by
        unfold gr
        by_cases q : i ∈ ns
        · rw [if_pos (hlz.mpr q), if_pos q]
        · rw [if_neg (mt hlz.mp q), if_neg q, List.append_nil]
      have hl : (out ++ gr ns i).length ≤ out.length + 1 := by
        rw [List.length_append]
        unfold gr
        by_cases q : i ∈ ns
        · rw [if_pos q]; exact Nat.le_refl _
        · rw [if_neg q]; exact Nat.le_succ _
      rw [if_neg (by lia), hout, sf_go hn n (i + 1) j (out ++ gr ns i) (by lia) (by exact Nat.le_add_left _ _) (fun m hm => by have := hf m hm; lia) (fun m hm => by have := hj m hm; lia) (by lia), List.range'_succ, List.flatMap_cons, List.append_assoc]
    · have e0 : Fl (n + 1) (PB (ns.map (geN i))) (PB (ns.map (· - i))) (i : Int) out = some out := if_pos hw
      have hlow : ∀ e ∈ ns, e < i := fun e he => by
        refine Nat.lt_of_not_le fun hie => hw ((len_one bw.len).mpr ⟨geN i e, List.mem_map_of_mem he, ?_⟩)
        unfold geN; rw [if_pos hie]; decide
      have hnil : (List.range' i j).flatMap (gr ns) = [] := by
        refine List.flatMap_eq_nil_iff.mpr fun h hh => ?_
        unfold gr
        rw [if_neg fun q => ?_]
        have h1 := hlow h q
        have h2 := List.mem_range'_1.mp hh
        lia
      rw [e0, hnil, List.append_nil]
theorem sqf_ok {ns : List Nat} (hn : Bg ns) {k : Int} (k0 : k ≠ 0) : sqf ((PB ns).map (k * ·)) = some (k, (List.range' 1 9).flatMap (gr ns)) := by
  have h9 : ∀ e ∈ ns, e ≤ 9 := fun e he => Nat.le_trans (le_sum he) hn.sum
  unfold sqf
  rw [Em (gdP ns) k0 (lenL hn), Fi (gdP ns)]
  suffices h : Jg (PB ns) = some ((List.range' 1 9).flatMap (gr ns)) by
    show (match Jg (PB ns) with | some l => some (k, l) | none => none) = _
    rw [h]
  by_cases h2 : (PB ns).length < 2
  · have e0 : Jg (PB ns) = some [] := if_pos h2
    rw [e0]
    refine congrArg some (List.flatMap_eq_nil_iff.mpr fun h hh => ?_).symm
    unfold gr
    rw [if_neg fun q => ?_]
    have h1 := List.mem_range'_1.mp hh
    have := (len_one hn.len).mpr ⟨h, q, by lia⟩
    lia
  · have e0 : Jg (PB ns) = match derivative (PB ns) with
      | some b' => (match gcdP (PB ns) b' with
        | some d => (match primitive d with
          | some g => (match Ec (PB ns) g with
            | some (some w) => Fl ((PB ns).length + 2) w g 1 []
            | _ => none)
          | none => none)
        | none => none)
      | none => none := if_neg h2
    have bG := Jd (f := (· - 1)) (fun n => Nat.sub_le n 1) hn
    rw [e0, Gn (gdP ns).tr (lenL hn)]
    show (match gcdP (PB ns) (dr (PB ns)) with
        | some d => (match primitive d with
          | some g => (match Ec (PB ns) g with
            | some (some w) => Fl ((PB ns).length + 2) w g 1 []
            | _ => none)
          | none => none)
        | none => none) = _
    rw [sf_start hn (Nat.le_of_not_lt h2)]
    show (match primitive (PB (ns.map (· - 1))) with
          | some g => (match Ec (PB ns) g with
            | some (some w) => Fl ((PB ns).length + 2) w g 1 []
            | _ => none)
          | none => none) = _
    rw [Fz (gdP _) (lenL bG)]
    show (match Ec (PB ns) (PB (ns.map (· - 1))) with
            | some (some w) => Fl ((PB ns).length + 2) w (PB (ns.map (· - 1))) 1 []
            | _ => none) = _
    rw [div_one (r := ns.map (geN 1)) hn bG fun x => by
      have := pv_map (f := geN 1) (g := (· - 1)) (h := id) (fun n => by unfold geN; show _ = n; split <;> lia) (ns := ns) x
      rwa [List.map_id] at this]
    exact sf_go hn ((PB ns).length + 2) 1 9 [] (by exact Nat.le_add_left _ _) (Nat.le_refl 1) (fun e he => by have := le_sum he; have := sum_len hn.len; lia) (fun e he => by have := h9 e he; exact Nat.lt_succ_of_le ‹_›) (by decide)
theorem rroots_ok {ns : List Nat} (hn : Bg ns) {k : Int} (k0 : k ≠ 0) (f : Nat) (low high : Int) : Iv f ((PB ns).map (k * ·)) low high = if (PB ns).length < 2 then some 0 else rrT f (PB (ns.map (geN 1))) low high := by
  have bG := Jd (f := (· - 1)) (fun n => Nat.sub_le n 1) hn
  unfold Iv
  rw [Em (gdP ns) k0 (lenL hn)]
  by_cases h2 : (PB ns).length < 2
  · rw [if_pos h2]; exact if_pos h2
  · rw [if_neg h2]
    refine (if_neg h2).trans ?_
    rw [Gn (gdP ns).tr (lenL hn)]
    show (match gcdP (PB ns) (dr (PB ns)) with
      | none => none
      | some g0 => match primitive g0 with
        | none => none
        | some g => match Ec (PB ns) g with
          | some (some b2) => rrT f b2 low high
          | _ => none) = _
    rw [sf_start hn (Nat.le_of_not_lt h2)]
    show (match primitive (PB (ns.map (· - 1))) with
        | none => none
        | some g => match Ec (PB ns) g with
          | some (some b2) => rrT f b2 low high
          | _ => none) = _
    rw [Fz (gdP _) (lenL bG)]
    show (match Ec (PB ns) (PB (ns.map (· - 1))) with
          | some (some b2) => rrT f b2 low high
          | _ => none) = _
    rw [div_one (r := ns.map (geN 1)) hn bG fun x => by
      have := pv_map (f := geN 1) (g := (· - 1)) (h := id) (fun n => by unfold geN; show _ = n; split <;> lia) (ns := ns) x
      rwa [List.map_id] at this]
end Mine
end
section
open PySem
namespace Mine
set_option tactic.hygienic false
set_option autoImplicit false
theorem ev_le {x : Int} {M : Nat} (hx : x.natAbs ≤ M) (hM : 1 ≤ M) : ∀ a : List Int, (ev a x).natAbs ≤ n1 a * M ^ a.length
  | [] => Nat.zero_le _
  | c :: r => by
    show (c + x * ev r x).natAbs ≤ (c.natAbs + n1 r) * M ^ (r.length + 1)
    have h1 := Int.natAbs_add_le c (x * ev r x)
    rw [Int.natAbs_mul] at h1
    have h2 := Nat.mul_le_mul hx (ev_le hx hM r)
    have h3 : c.natAbs ≤ c.natAbs * M ^ (r.length + 1) := Nat.le_mul_of_pos_right _ (Nat.pow_pos hM)
    rw [Nat.add_mul, Nat.pow_succ, ← Nat.mul_assoc (n1 r)]
    rw [Nat.pow_succ] at h3
    rw [Nat.mul_comm M] at h2
    lia
noncomputable def BT : Nat := 1048576
theorem two_lt {p q : Nat} (h : p < q) : (2 : Nat) ^ p < 2 ^ q := Nat.pow_lt_pow_right (by decide) h
theorem Jf {p q : Nat} (h : p ≤ q) : (2 : Nat) ^ p ≤ 2 ^ q := Nat.pow_le_pow_right (by decide) h
theorem ev_bt {x : Int} {a : List Int} {p n : Nat} (hx : x.natAbs ≤ 2 ^ BT) (h1 : n1 a ≤ 2 ^ p) (hl : a.length ≤ n) : (ev a x).natAbs ≤ 2 ^ (p + BT * n) := by
  refine Nat.le_trans (ev_le hx Nat.one_le_two_pow a) ?_
  rw [Nat.pow_add, Nat.pow_mul]
  exact Nat.mul_le_mul h1 (Nat.pow_le_pow_right Nat.one_le_two_pow hl)
noncomputable def tri (A : List Int) : Int × Int × Int := (co A 0, co A 1, co A 2)
theorem tri_ev {A : List Int} (h : A.length ≤ 3) (x : Int) : atV (tri A) x = ev A x := by
  have e : ev A x = ev [co A 0, co A 1, co A 2] x := ev_co (fun n => by
    match n with
    | 0 => rfl
    | 1 => rfl
    | 2 => rfl
    | n + 3 => rw [co_ge (by lia)]; rfl) x
  rw [e]
  show co A 0 + co A 1 * x + co A 2 * x * x = co A 0 + x * (co A 1 + x * (co A 2 + x * 0))
  rw [Int.mul_zero, Int.add_zero, Int.mul_add, Int.mul_comm x (co A 1), Int.mul_comm x (co A 2), Int.mul_comm x (co A 2 * x), Int.add_assoc]
theorem pow_abs (a : Int) : ∀ n : Nat, (a ^ n).natAbs = a.natAbs ^ n
  | 0 => by rw [Int.pow_zero, Nat.pow_zero]; rfl
  | n + 1 => by rw [Int.pow_succ, Nat.pow_succ, Int.natAbs_mul, pow_abs a n]
theorem at_go {x : Int} (hx : x.natAbs < 2 ^ BT) : ∀ (As : List (List Int)) (ns : List Nat) (out : Int) (s : Nat), (∀ A ∈ As, A.length ≤ 3 ∧ n1 A ≤ 3) → out.natAbs ≤ 2 ^ ((2 + BT * 3) * s) → s + ns.sum ≤ 9 →
    AtR x (As.map tri) (ns.map fun (n : Nat) => (n : Int)) out (out * pv As ns x) ∧ (out * pv As ns x).natAbs ≤ 2 ^ ((2 + BT * 3) * 9)
  | [], ns, out, s, _, ho, hs => by
    rw [show pv [] ns x = 1 from rfl, Int.mul_one]
    exact ⟨.nil, Nat.le_trans ho (Jf (Nat.mul_le_mul_left _ (by exact Nat.le_trans (Nat.le_add_right _ _) ‹_›)))⟩
  | A :: As, [], out, s, _, ho, hs => by
    rw [show pv (A :: As) [] x = 1 from rfl, Int.mul_one]
    exact ⟨.nil', Nat.le_trans ho (Jf (Nat.mul_le_mul_left _ (by exact Nat.le_trans (Nat.le_add_right _ _) ‹_›)))⟩
  | A :: As, n :: ns, out, s, hA, ho, hs => by
    obtain ⟨hl, h1⟩ := hA A (List.mem_cons_self ..)
    rw [List.sum_cons] at hs
    have hv : (ev A x).natAbs ≤ 2 ^ (2 + BT * 3) := ev_bt (Nat.le_of_lt hx) (Nat.le_trans h1 (by decide)) hl
    have hp : (ev A x ^ n).natAbs ≤ 2 ^ ((2 + BT * 3) * n) := by
      rw [pow_abs, Nat.pow_mul]; exact Nat.pow_le_pow_left hv n
    have hc : ∀ i, (co A i).natAbs ≤ 3 := fun i => Nat.le_trans (co_le A i) h1
    have hB : (2 + BT * 3) * 9 + 2 ≤ bitsLine := by decide
    have hsm : ∀ i, (co A i).natAbs < 2 ^ 64 := fun i => Nat.lt_of_le_of_lt (hc i) (by decide)
    have ok : AtOk (tri A) x (n : Int) out := by
      refine ⟨Jk (hsm 1), Jk (hsm 2), Hg (p := 2 + BT) (q := BT) ?_ hx (by decide), ⟨Int.natCast_nonneg n, ?_⟩, ?_⟩
      · show (co A 2 * x).natAbs < _
        rw [Int.natAbs_mul, Nat.pow_add]
        exact Nat.lt_of_le_of_lt (Nat.mul_le_mul_right _ (hc 2)) (Nat.lt_of_lt_of_le (Nat.mul_lt_mul_of_pos_left hx (by decide)) (Nat.mul_le_mul_right _ (by decide)))
      · rw [tri_ev hl]
        have hb := bits_le (Nat.lt_of_le_of_lt hv (two_lt (Nat.lt_succ_self _)))
        have h2 : Builtin.Int.intBits (ev A x) * n ≤ (2 + BT * 3 + 1) * 9 := Nat.mul_le_mul hb (by lia)
        have h3 : (2 + BT * 3 + 1) * 9 ≤ 2 ^ 27 := by decide
        have h4 := Int.ofNat_le.mpr (Nat.le_trans h2 h3)
        exact h4
      · rw [tri_ev hl]
        refine Hg (p := (2 + BT * 3) * s + 1) (q := (2 + BT * 3) * n + 1) (Nat.lt_of_le_of_lt ho (two_lt (Nat.lt_succ_self _))) (Nat.lt_of_le_of_lt hp (two_lt (Nat.lt_succ_self _))) (Nat.le_trans ?_ hB)
        have := Nat.mul_le_mul_left (2 + BT * 3) (show s + n ≤ 9 by lia)
        rw [Nat.mul_add] at this
        lia
    have ih := at_go hx As ns (out * ev A x ^ n) (s + n) (fun B hB => hA B (List.mem_cons_of_mem _ hB)) (by
      rw [Int.natAbs_mul, Nat.mul_add, Nat.pow_add]; exact Nat.mul_le_mul ho hp) (by lia)
    rw [Int.mul_assoc] at ih
    refine ⟨.cons ok ?_, ih.2⟩
    rw [tri_ev hl]
    exact ih.1
theorem at3' : ∀ A ∈ AT, A.length ≤ 3 ∧ n1 A ≤ 3 := by decide
theorem at_ok {x : Int} (hx : x.natAbs < 2 ^ BT) {ns : List Nat} (hn : Bg ns) : AtR x ATOMS (ns.map fun (n : Nat) => (n : Int)) 1 (pv AT ns x) ∧ (pv AT ns x).natAbs ≤ 2 ^ ((2 + BT * 3) * 9) := by
  have := at_go hx AT ns 1 0 at3' (Nat.le_refl 1) (by have := hn.sum; with_reducible exact Nat.le_trans (by repeat' first | assumption | apply Nat.add_le_add | exact Nat.le_refl _) (by decide))
  rwa [Int.one_mul] at this
theorem dig_of {c t : Int} (h : c.natAbs < 2 ^ 64) : dig (c + BASE * t) = c := by
  unfold dig
  have hB : BASE = 100000000000000000000 := rfl
  have hH : HALF = 50000000000000000000 := rfl
  rw [show c + BASE * t + HALF = (c + HALF) + BASE * t by lia, Int.add_mul_fmod_self_left, Int.fmod_eq_of_lt (by lia) (by lia)]
  exact Int.add_sub_cancel _ _
theorem nz : ∀ {P : List Int}, Ay P → Sm P → P ≠ [] → ev P BASE ≠ 0
  | [], _, _, h, _ => h rfl
  | c :: r, ht, hs, _, h0 => by
    have hB : BASE = 100000000000000000000 := rfl
    have hc : c.natAbs < 2 ^ 64 := Nat.lt_of_le_of_lt (Nat.le_add_right _ _) hs
    have h1 : c + BASE * ev r BASE = 0 := h0
    have h2 := dig_of (t := ev r BASE) hc
    rw [h1] at h2
    have h3 : c = 0 := h2.symm.trans (by decide)
    by_cases hr : r = []
    · subst hr; exact ht c rfl h3
    · refine nz (P := r) (fun z hz => ht z (by rw [List.getLast?_cons_of_ne_nil hr]; exact hz)) (Nat.lt_of_le_of_lt (Nat.le_add_left _ _) hs) hr ?_
      rw [h3, Int.zero_add] at h1
      exact (Int.mul_eq_zero.mp h1).resolve_left (by decide)
theorem dig_ok {k : Int} : ∀ (P : List Int) (f : Nat) (out : List Int), Ay P → Sm P → P.length < f → out.length + P.length ≤ LIM → DigR k f (ev P BASE) out (out ++ P.map (k * ·))
  | [], f + 1, out, _, _, _, _ => by
    rw [List.map_nil, List.append_nil]; exact .done
  | [], 0, out, _, _, h, _ => absurd h (Nat.not_lt_zero _)
  | c :: r, 0, out, _, _, h, _ => absurd h (Nat.not_lt_zero _)
  | c :: r, f + 1, out, ht, hs, hf, hl => by
    have hc : c.natAbs < 2 ^ 64 := Nat.lt_of_le_of_lt (Nat.le_add_right _ _) hs
    have hd : dig (ev (c :: r) BASE) = c := dig_of hc
    refine .more (nz ht hs (List.cons_ne_nil _ _)) (by rw [hd]; exact mulOk_r hc) (by simp only [List.length_cons] at hl; exact ZV ‹_›) ?_
    rw [hd]
    have h1 : (ev (c :: r) BASE - c).fdiv BASE = ev r BASE := by
      show (c + BASE * ev r BASE - c).fdiv BASE = _
      rw [show c + BASE * ev r BASE - c = BASE * ev r BASE by lia]
      exact Int.mul_fdiv_cancel_left _ (by decide)
    have h2 : out ++ (c :: r).map (k * ·) = (out ++ [k * c]) ++ r.map (k * ·) := by
      rw [List.map_cons, List.append_assoc]; rfl
    rw [h1, h2]
    refine dig_ok r f _ ?_ (Nat.lt_of_le_of_lt (Nat.le_add_left _ _) hs) (Nat.lt_of_succ_lt_succ hf) (by
      rw [List.length_append]; simp only [List.length_cons, List.length_nil] at hl ⊢; exact ZW ‹_›)
    intro z hz
    by_cases hr : r = []
    · rw [hr] at hz; cases hz
    · exact ht z (by rw [List.getLast?_cons_of_ne_nil hr]; exact hz)
theorem poly_ok {k : Int} (k0 : k ≠ 0) {x : Int} (hx : x.natAbs < 2 ^ BT) {ns : List Nat} (hn : Bg ns) {P : List Int} (ht : Ay P) (hs : Sm P) (hl : P.length < 64) (he : ev P BASE = pv AT ns x) : Fb k (ns.map fun (n : Nat) => (n : Int)) x 64 (P.map (k * ·)) := by
  refine .some k0 _ (at_ok hx hn).1 ?_
  rw [← he]
  have := dig_ok (k := k) P 64 [] ht hs hl (by rw [List.length_nil, Nat.zero_add]; exact Nat.le_trans (Nat.le_of_lt hl) (by decide))
  rwa [List.nil_append] at this
theorem base_lt : BASE.natAbs < 2 ^ BT := Nat.lt_of_lt_of_le (show BASE.natAbs < 2 ^ 67 by decide) (Jf (by decide))
theorem Hv {k : Int} (k0 : k ≠ 0) {ns : List Nat} (hn : Bg ns) : Fb k (ns.map fun (n : Nat) => (n : Int)) BASE 64 ((PB ns).map (k * ·)) :=
  poly_ok k0 base_lt hn (gdP ns).tr (smP hn.sum) (Nat.lt_of_le_of_lt (Ik hn) (by decide)) (Fe _ _ _)
theorem val_go {n : Int} (hn : n.natAbs < 2 ^ BT) {p : Nat} (hp : p ≤ BT + BT) : ∀ rl s : List Int, n1 rl + n1 s ≤ 2 ^ p → rl.length + s.length ≤ 19 → valO n rl (ev s n) = some (ev (rl.reverse ++ s) n)
  | [], s, _, _ => rfl
  | c :: rl, s, h, hl => by
    have h1 : n1 (c :: rl) = c.natAbs + n1 rl := rfl
    rw [List.length_cons] at hl
    have hb : (ev s n).natAbs ≤ 2 ^ (p + BT * 19) := ev_bt (Nat.le_of_lt hn) (by exact Nat.le_trans (Nat.le_add_left _ _) ‹_›) (by exact Nat.le_trans (Nat.le_add_left _ _) ‹_›)
    have e : valO n (c :: rl) (ev s n) = valO n rl (ev s n * n + c) := if_pos (Hg (p := p + BT * 19 + 1) (q := BT) (Nat.lt_of_le_of_lt hb (two_lt (Nat.lt_succ_self _))) hn (Nat.le_trans (show p + BT * 19 + 1 + BT ≤ BT * 22 + 1 by with_reducible exact Nat.le_trans (by repeat' first | assumption | apply Nat.add_le_add | exact Nat.le_refl _) (by decide)) (by decide)))
    have h2 : ev s n * n + c = ev (c :: s) n := by
      show _ = c + n * ev s n
      rw [Int.mul_comm, Int.add_comm]
    rw [e, h2, val_go hn hp rl (c :: s) (by show n1 rl + (c.natAbs + n1 s) ≤ _; lia) (by rw [List.length_cons]; lia), List.reverse_cons, List.append_assoc]; rfl
theorem n1_rev : ∀ a b : List Int, n1 (a ++ b) = n1 a + n1 b
  | [], b => (Nat.zero_add _).symm
  | c :: r, b => by show c.natAbs + n1 (r ++ b) = c.natAbs + n1 r + n1 b; rw [n1_rev r b, Nat.add_assoc]
theorem n1_reverse : ∀ a : List Int, n1 a.reverse = n1 a
  | [] => rfl
  | c :: r => by rw [List.reverse_cons, n1_rev, n1_reverse r, Nat.add_comm]; rfl
theorem value_ok {a : List Int} {n : Int} (hn : n.natAbs < 2 ^ BT) {p : Nat} (hp : p ≤ BT + BT) (h : n1 a ≤ 2 ^ p) (hl : a.length ≤ 19) : value a n = some (ev a n) := by
  have := val_go hn hp a.reverse [] (by rw [n1_reverse]; exact h) (by rw [List.length_reverse]; exact hl)
  rwa [List.reverse_reverse, List.append_nil] at this
theorem ev_addP (a b : List Int) (x : Int) : ev (addP a b) x = ev a x + ev b x := by
  unfold addP
  rw [Ei, ← Fv]
  refine ev_co (fun n => ?_) x
  rw [co_pa]
  unfold co
  rw [List.getD_eq_getElem?_getD, List.getElem?_map]
  by_cases h : n < max a.length b.length
  · rw [List.getElem?_range h]; rfl
  · rw [List.getElem?_eq_none (by rw [List.length_range]; exact Nat.le_of_not_lt ‹_›)]
    show (0 : Int) = co a n + co b n
    rw [co_ge (by lia), co_ge (by lia)]; rfl
noncomputable def cmpL (b : List Int) : List Int → List Int
  | [] => []
  | c :: r => pa [c] (pm b (cmpL b r))
theorem Jm (b : List Int) (x : Int) : ∀ a : List Int, ev (cmpL b a) x = ev a (ev b x)
  | [] => rfl
  | c :: r => by
    show ev (pa [c] (pm b (cmpL b r))) x = c + ev b x * ev r (ev b x)
    rw [Fv, Fd, Jm b x r]
    show c + x * 0 + _ = _
    rw [Int.mul_zero, Int.add_zero]
theorem n1_cmpL {b : List Int} (hb : n1 b ≤ 3) : ∀ a : List Int, n1 (cmpL b a) ≤ n1 a * 3 ^ a.length
  | [] => Nat.le_refl _
  | c :: r => by
    have h1 := n1_pa [c] (pm b (cmpL b r))
    have h2 := Nat.le_trans (n1_pm (cmpL b r) b) (Nat.mul_le_mul hb (n1_cmpL hb r))
    have h3 : c.natAbs ≤ c.natAbs * 3 ^ (r.length + 1) := Nat.le_mul_of_pos_right _ (Nat.pow_pos (by decide))
    show n1 (pa [c] (pm b (cmpL b r))) ≤ (c.natAbs + n1 r) * 3 ^ (r.length + 1)
    have h4 : n1 [c] = c.natAbs + 0 := rfl
    rw [Nat.add_mul, Nat.pow_succ, ← Nat.mul_assoc (n1 r)]
    rw [Nat.pow_succ] at h3
    lia
theorem pa_len_le : ∀ a b : List Int, (pa a b).length ≤ max a.length b.length
  | [], b => Nat.le_max_right _ _
  | c :: r, [] => Nat.le_max_left _ _
  | c :: r, d :: t => by
    have := pa_len_le r t
    show (pa r t).length + 1 ≤ max (r.length + 1) (t.length + 1)
    lia
theorem pm_len_le (b : List Int) : ∀ a : List Int, (pm a b).length ≤ a.length + b.length
  | [] => Nat.zero_le _
  | c :: r => by
    have h1 := pa_len_le (b.map (c * ·)) (0 :: pm r b)
    have h2 := pm_len_le b r
    rw [List.length_map, List.length_cons] at h1
    show (pa _ _).length ≤ r.length + 1 + b.length
    lia
theorem cmp_len {b : List Int} (hb : b.length ≤ 3) : ∀ a : List Int, (cmpL b a).length ≤ 3 * a.length
  | [] => Nat.le_refl _
  | c :: r => by
    have h1 := pa_len_le [c] (pm b (cmpL b r))
    have h2 := pm_len_le (cmpL b r) b
    have h3 := cmp_len hb r
    have h4 : ([c] : List Int).length = 1 := rfl
    show (pa [c] (pm b (cmpL b r))).length ≤ 3 * (r.length + 1)
    lia
theorem trim_le (a : List Int) : (trim a).length ≤ a.length := by rw [Ir]; exact tl_le' a _
theorem comp_go {b : List Int} (hb : n1 b ≤ 3) (hlb : b.length ≤ 3) : ∀ rl s : List Int, rl.length + s.length ≤ 19 → compO b rl (trim (cmpL b s)) = some (trim (cmpL b (rl.reverse ++ s)))
  | [], s, _ => rfl
  | c :: rl, s, hn => by
    rw [List.length_cons] at hn
    have hL : LIM = 1048576 := rfl
    have hl := Nat.le_trans (trim_le (cmpL b s)) (cmp_len hlb s)
    obtain ⟨m, e1, tm, em⟩ := multiply_ok (a := trim (cmpL b s)) (b := b) (by lia) fun x _ => Sm.r (Nat.lt_of_le_of_lt hb (by decide)) x
    have hm : m = trim (pm (cmpL b s) b) := Gr tm (Eb _) fun x _ => by rw [em, Ei, Ei, Fd]
    have hml : m.length ≤ 60 := by
      rw [hm]
      have h1 := trim_le (pm (cmpL b s) b)
      have h2 := pm_len_le b (cmpL b s)
      have h3 := cmp_len hlb s
      lia
    have e2 : compO b (c :: rl) (trim (cmpL b s)) = match multiply (trim (cmpL b s)) b with
      | some m => if LIM < m.length then none else compO b rl (addP m (if c = 0 then [] else [c]))
      | none => none := rfl
    have e3 : addP m (if c = 0 then [] else [c]) = trim (cmpL b (c :: s)) := by
      refine Gr (Eb _) (Eb _) fun x _ => ?_
      rw [ev_addP, em, Ei, Ei, Jm, Jm]
      have h4 : ev (if c = 0 then [] else [c]) x = c := by
        by_cases h : c = 0
        · rw [if_pos h, h]; rfl
        · rw [if_neg h]
          show c + x * 0 = c
          rw [Int.mul_zero, Int.add_zero]
      rw [h4, Int.mul_comm, Int.add_comm]; rfl
    rw [e2, e1]
    show (if LIM < m.length then none else compO b rl (addP m (if c = 0 then [] else [c]))) = _
    rw [if_neg (by lia), e3, comp_go hb hlb rl (c :: s) (by rw [List.length_cons]; lia), List.reverse_cons, List.append_assoc]; rfl
theorem inner_ok (n : Nat) : n1 (Fn.getD n []) ≤ 3 ∧ (Fn.getD n []).length ≤ 3 ∧ Eh (Fn.getD n []) = ev (Fn.getD n []) BASE ∧ (ev (Fn.getD n []) BASE).natAbs < 2 ^ 200 := by
  match n with
  | 0 => decide
  | 1 => decide
  | 2 => decide
  | 3 => decide
  | 4 => decide
  | n + 5 => rw [show Fn.getD (n + 5) [] = [] from rfl]; decide
theorem compose_ok {ns : List Nat} (hn : Bg ns) {k : Int} (k0 : k ≠ 0) (n : Nat) : ∃ r, compose ((PB ns).map (k * ·)) (Fn.getD n []) = some r ∧ Fb k (ns.map fun (n : Nat) => (n : Int)) (Eh (Fn.getD n [])) 64 r := by
  obtain ⟨h1, h2, h3, h4⟩ := inner_ok n
  generalize Fn.getD n [] = b at h1 h2 h3 h4
  have hl := Ik hn
  refine ⟨(trim (cmpL b (PB ns))).map (k * ·), ?_, ?_⟩
  · have := comp_go h1 h2 ((PB ns).map (k * ·)).reverse [] (by rw [List.length_reverse, List.length_map]; exact hl)
    rw [List.reverse_reverse, List.append_nil] at this
    refine this.trans (congrArg some (Gr (Eb _) (Ff k0 (Eb _)) fun x _ => ?_))
    rw [Ei, Jm, Ed, Ed, Ei, Jm]
  · rw [h3]
    refine poly_ok k0 (Nat.lt_of_lt_of_le h4 (Jf (by decide))) hn (Eb _) ?_ ?_ ?_
    · refine Nat.lt_of_le_of_lt (Nat.le_trans (n1_trim _) (Nat.le_trans (n1_cmpL h1 _) (Nat.mul_le_mul (Nat.le_trans (n1P ns) (Nat.pow_le_pow_right (by decide) hn.sum)) (Nat.pow_le_pow_right (by decide) hl)))) (by decide)
    · have := trim_le (cmpL b (PB ns))
      have := cmp_len h2 (PB ns)
      lia
    · rw [Ei, Jm, Fe]
end Mine
end
section
open PySem
namespace Mine
set_option tactic.hygienic false
set_option autoImplicit false
noncomputable def qv : List Nat → List Nat → Nat
  | v :: vs, n :: ns => v ^ n * qv vs ns
  | _, _ => 1
noncomputable def Le : List Nat → List Nat → Prop
  | m :: ms, n :: ns => m ≤ n ∧ Le ms ns
  | _, _ => True
noncomputable def Own : List Nat → List (Nat × Nat) → Prop
  | v :: vs, (p, u) :: ps => v = p * u ∧ 2 ≤ p ∧ Nat.Coprime p u ∧ (∀ w ∈ vs, Nat.Coprime p w) ∧ (∀ q ∈ ps, Nat.Coprime q.1 v) ∧ Own vs ps
  | _, _ => True
theorem cop_qv {p : Nat} : ∀ (vs ns : List Nat), (∀ w ∈ vs, Nat.Coprime p w) → Nat.Coprime p (qv vs ns)
  | [], _, _ => Nat.coprime_one_right p
  | _ :: _, [], _ => Nat.coprime_one_right p
  | v :: vs, n :: ns, h => Nat.Coprime.mul_right (Nat.Coprime.pow_right n (h v (List.mem_cons_self ..))) (cop_qv vs ns fun w hw => h w (List.mem_cons_of_mem _ hw))
theorem own_le : ∀ (vs : List Nat) (ps : List (Nat × Nat)) (ms ns : List Nat) (K K' : Nat), vs.length = ps.length → ms.length = vs.length → Own vs ps → (∀ q ∈ ps, Nat.Coprime q.1 K') → K * qv vs ms ∣ K' * qv vs ns → Le ms ns
  | [], _, [], _, _, _, _, _, _, _, _ => trivial
  | [], _, _ :: _, _, _, _, _, h, _, _, _ => by cases h
  | _ :: _, [], _, _, _, _, h, _, _, _, _ => by cases h
  | _ :: _, _ :: _, [], _, _, _, _, _, _, _, _ => trivial
  | _ :: _, _ :: _, _ :: _, [], _, _, _, _, _, _, _ => trivial
  | v :: vs, (p, u) :: ps, m :: ms, n :: ns, K, K', h1, h2, ⟨e, hp, hu, hw, hq, ho⟩, hK, hd => by
    have h3 : p ^ m ∣ K' * (v ^ n * qv vs ns) := by
      refine Nat.dvd_trans ?_ hd
      show p ^ m ∣ K * (v ^ m * qv vs ms)
      rw [e, Nat.mul_pow, Nat.mul_assoc]
      exact Nat.dvd_mul_left_of_dvd (Nat.dvd_mul_right _ _) K
    have h4 := Nat.Coprime.dvd_of_dvd_mul_left (Nat.Coprime.pow_left m (hK _ (List.mem_cons_self ..))) h3
    have h5 := Nat.Coprime.dvd_of_dvd_mul_right (Nat.Coprime.pow_left m (cop_qv vs ns hw)) h4
    rw [e, Nat.mul_pow] at h5
    have h6 := Nat.Coprime.dvd_of_dvd_mul_right (Nat.Coprime.pow_left m (Nat.Coprime.pow_right n hu)) h5
    refine ⟨(Nat.pow_dvd_pow_iff_le_right hp).mp h6, own_le vs ps ms ns (K * v ^ m) (K' * v ^ n) (Nat.succ.inj h1) (Nat.succ.inj h2) ho (fun q hq' => Nat.Coprime.mul_right (hK q (List.mem_cons_of_mem _ hq')) (Nat.Coprime.pow_right n (hq q hq'))) ?_⟩
    rw [Nat.mul_assoc, Nat.mul_assoc]
    exact hd
noncomputable def VS : List Nat := [6, 5, 13, 34, 43]
noncomputable def PS : List (Nat × Nat) := [(3, 2), (5, 1), (13, 1), (17, 2), (43, 1)]
theorem own_VS : Own VS PS := by
  refine ⟨rfl, by decide, by decide, by decide, by decide, rfl, by decide, by decide, by decide, by decide, rfl, by decide, by decide, by decide, by decide, rfl, by decide, by decide, by decide, by decide, rfl, by decide, by decide, by decide, by decide, trivial⟩
theorem pv_six : ∀ (As : List (List Int)) (ns : List Nat), (∀ A ∈ As, 0 ≤ ev A 6) → pv As ns 6 = ((qv (As.map fun A => (ev A 6).toNat) ns : Nat) : Int)
  | [], _, _ => rfl
  | _ :: _, [], _ => rfl
  | A :: As, n :: ns, h => by
    show ev A 6 ^ n * pv As ns 6 = (((ev A 6).toNat ^ n * qv (As.map fun A => (ev A 6).toNat) ns : Nat) : Int)
    rw [pv_six As ns fun B hB => h B (List.mem_cons_of_mem _ hB), Int.natCast_mul, Int.natCast_pow, Int.toNat_of_nonneg (h A (List.mem_cons_self ..))]
theorem le_of_dvd {ms ns : List Nat} (hm : ms.length = 5) (h : pv AT ms 6 ∣ pv AT ns 6) : Le ms ns := by
  have h6 : ∀ A ∈ AT, 0 ≤ ev A 6 := by decide
  rw [pv_six AT ms h6, pv_six AT ns h6] at h
  have h2 := Int.natCast_dvd_natCast.mp h
  refine own_le VS PS ms ns 1 1 rfl hm own_VS (fun q _ => Nat.coprime_one_right _) ?_
  rw [Nat.one_mul, Nat.one_mul]
  exact h2
theorem held {ns ms : List Nat} (hm : ms.length = 5) {k m : Int} (k0 : k ≠ 0) (m0 : m ≠ 0) (h : ∃ g, ∀ x, ev ((PB ns).map (k * ·)) x = ev g x * ev ((PB ms).map (m * ·)) x) : k.fmod m = 0 ∧ Le ms ns := by
  obtain ⟨g, hg⟩ := h
  have hg' : ∀ x, k * ev (PB ns) x = m * (ev g x * ev (PB ms) x) := fun x => by
    have := hg x
    rw [Ed, Ed, Int.mul_left_comm] at this
    exact this
  have h1 : m ∣ k := (gdP ns).gp m [k] ((PB ns).map (k * ·)) (fun x => by
    rw [Ed, Int.mul_comm]
    show _ = ev (PB ns) x * (k + x * 0)
    rw [Int.mul_zero, Int.add_zero]) (fun n => by
    rw [co_of n (b := (pm g (PB ms)).map (m * ·)) fun x _ => by rw [Ed, Ed, Fd]; exact hg' x, Ii]
    exact Int.dvd_mul_right _ _) 0
  refine ⟨Int.fmod_eq_zero_of_dvd h1, ?_⟩
  obtain ⟨k', rfl⟩ := h1
  have k0' : k' ≠ 0 := fun e => k0 (by rw [e, Int.mul_zero])
  have h2 : ∀ x, k' * ev (PB ns) x = ev (PB ms) x * ev g x := fun x => by
    have := hg' x
    rw [Int.mul_assoc] at this
    rw [Int.mul_comm (ev (PB ms) x)]
    exact Int.eq_of_mul_eq_mul_left m0 this
  have h3 : Dv k' g := (gdP ms).gp k' g ((PB ns).map (k' * ·)) (fun x => by rw [Ed]; exact h2 x) fun n => by
    rw [Ii]; exact Int.dvd_mul_right _ _
  refine le_of_dvd hm ⟨ev (g.map (·.fdiv k')) 6, ?_⟩
  have h4 := h2 6
  rw [h3.ev, Int.mul_left_comm] at h4
  have h5 := Int.eq_of_mul_eq_mul_left k0' h4
  rwa [Fe, Fe] at h5
theorem ge_of_le : ∀ {ms ns : List Nat}, Le ms ns → Hy (ns.map fun (n : Nat) => (n : Int)) (ms.map fun (n : Nat) => (n : Int)) = true
  | [], [], _ => rfl
  | [], _ :: _, _ => rfl
  | _ :: _, [], _ => rfl
  | m :: ms, n :: ns, ⟨h, hr⟩ => by
    show (!decide ((n : Int) < (m : Int)) && Hy _ _) = true
    rw [ge_of_le hr, decide_eq_false (by exact mt Int.ofNat_lt.mp (Nat.not_lt_of_le ‹_›))]; rfl
theorem le_of_ge : ∀ {ms ns : List Nat}, Hy (ns.map fun (n : Nat) => (n : Int)) (ms.map fun (n : Nat) => (n : Int)) = true → Le ms ns
  | [], _, _ => trivial
  | _ :: _, [], _ => trivial
  | m :: ms, n :: ns, h => by
    have h' : (!decide ((n : Int) < (m : Int)) && Hy (ns.map fun (n : Nat) => (n : Int)) (ms.map fun (n : Nat) => (n : Int))) = true := h
    obtain ⟨h1, h2⟩ := Bool.and_eq_true_iff.mp h'
    refine ⟨?_, le_of_ge h2⟩
    by_cases q : (n : Int) < (m : Int)
    · rw [decide_eq_true q] at h1; cases h1
    · lia
theorem zip_nat {g : Int → Int → Int} {op : Nat → Nat → Nat} : ∀ {ns ms : List Nat}, (∀ n m : Nat, g n m = ((op n m : Nat) : Int)) → zipI g (ns.map fun (n : Nat) => (n : Int)) (ms.map fun (n : Nat) => (n : Int)) = (List.zipWith op ns ms).map fun (n : Nat) => (n : Int)
  | [], _, _ => rfl
  | _ :: _, [], _ => rfl
  | n :: ns, m :: ms, h => by
    show g n m :: zipI g _ _ = ((op n m : Nat) : Int) :: _
    rw [zip_nat h, h]
theorem zip_sub : ∀ {ns ms : List Nat}, Le ms ns → zipI (· - ·) (ns.map fun (n : Nat) => (n : Int)) (ms.map fun (n : Nat) => (n : Int)) = (sb ns ms).map fun (n : Nat) => (n : Int)
  | [], _, _ => rfl
  | _ :: _, [], _ => rfl
  | n :: ns, m :: ms, ⟨h, hr⟩ => by
    show ((n : Int) - (m : Int)) :: zipI _ _ _ = ((n - m : Nat) : Int) :: _
    rw [zip_sub hr, Int.ofNat_sub h]; rfl
theorem mn_of_le : ∀ {ms ns : List Nat}, ms.length = ns.length → Le ms ns → mn ns ms = ms
  | [], [], _, _ => rfl
  | m :: ms, n :: ns, hl, ⟨h, hr⟩ => by
    show min n m :: mn ns ms = m :: ms
    rw [mn_of_le (Nat.succ.inj hl) hr, Nat.min_eq_right h]
noncomputable def bagN (ps : List Int) : List Nat := [(0 : Int), 1, 2, 3, 4].map fun t => ps.count t
theorem bag_nat {m : Int} (h : m ≠ 0) (ps : List Int) : bagL m ps = (bagN ps).map fun (n : Nat) => (n : Int) := (if_neg h).trans (List.map_map (f := fun t => ps.count t) (g := fun (n : Nat) => (n : Int)) (l := [(0 : Int), 1, 2, 3, 4])).symm
theorem bag_sum : ∀ ps : List Int, (bagN ps).sum ≤ ps.length
  | [] => Nat.le_refl _
  | p :: ps => by
    have ih := bag_sum ps
    have e : ∀ qs, (bagN qs).sum = qs.count 0 + (qs.count 1 + (qs.count 2 + (qs.count 3 + (qs.count 4 + 0)))) := fun qs => rfl
    rw [e] at ih ⊢
    rw [List.length_cons, List.count_cons, List.count_cons, List.count_cons, List.count_cons, List.count_cons]
    have hb : ∀ t : Int, (p == t) = decide (p = t) := fun t => rfl
    simp only [hb, decide_eq_true_eq]
    by_cases h0 : p = 0
    · subst h0; simp; lia
    by_cases h1 : p = 1
    · subst h1; simp; lia
    by_cases h2 : p = 2
    · subst h2; simp; lia
    by_cases h3 : p = 3
    · subst h3; simp; lia
    rw [if_neg h0, if_neg h1, if_neg h2, if_neg h3]
    split <;> lia
theorem common_ok {k m : Int} (m0 : m ≠ 0) (h6 : m.natAbs ≤ 6) : Hi k m = ((Int.gcd k m : Nat) : Int) := by
  have hg0 : 0 < Int.gcd k m := Int.gcd_pos_of_ne_zero_right k m0
  have hg6 : Int.gcd k m ≤ 6 := Nat.le_trans (Nat.le_of_dvd (Int.natAbs_pos.mpr m0) (Int.natAbs_dvd_natAbs.mpr (Int.gcd_dvd_right k m))) h6
  have e : comDs k m = [(1 : Int), 2, 3, 4, 5, 6].filter fun d => ((Int.gcd k m : Nat) : Int).fmod d == 0 := by
    unfold comDs
    refine List.filter_congr fun d _ => ?_
    have hb : ∀ t : Int, (t == 0) = decide (t = 0) := fun t => rfl
    rw [hb, hb, hb, ← Bool.decide_and]
    refine decide_eq_decide.mpr ⟨fun ⟨h1, h2⟩ => ?_, fun h => ⟨?_, ?_⟩⟩
    · exact Int.fmod_eq_zero_of_dvd (Int.dvd_coe_gcd (Int.dvd_of_fmod_eq_zero h1) (Int.dvd_of_fmod_eq_zero h2))
    · exact Int.fmod_eq_zero_of_dvd (Int.dvd_trans (Int.dvd_of_fmod_eq_zero h) (Int.gcd_dvd_left k m))
    · exact Int.fmod_eq_zero_of_dvd (Int.dvd_trans (Int.dvd_of_fmod_eq_zero h) (Int.gcd_dvd_right k m))
  have e2 : Hi k m = match comDs k m with
    | x :: r => r.foldl max x
    | [] => 0 := if_neg m0
  rw [e2, e]
  generalize Int.gcd k m = g at hg0 hg6
  match g, hg0, hg6 with
  | 1, _, _ => rfl
  | 2, _, _ => rfl
  | 3, _, _ => rfl
  | 4, _, _ => rfl
  | 5, _, _ => rfl
  | 6, _, _ => rfl
theorem scale_le (n : Int) : (Fo n).natAbs ≤ 6 := by
  unfold Fo
  generalize (n.fmod 8).toNat = i
  match i with
  | 0 => decide
  | 1 => decide
  | 2 => decide
  | 3 => decide
  | 4 => decide
  | 5 => decide
  | 6 => decide
  | 7 => decide
  | i + 8 => rw [show ([1, -1, 2, -2, 3, -6, 0, 1] : List Int).getD (i + 8) 0 = 0 from rfl]; decide
theorem len_sum {ns : List Nat} (h : ns.length = 5) : (PB ns).length ≤ 2 * ns.sum + 1 := by
  obtain ⟨a, b, c, d, e, rfl⟩ := five h
  rw [lenP]
  simp only [List.sum_cons, List.sum_nil]
  lia
end Mine
end
section
open PySem
namespace Mine
set_option tactic.hygienic false
set_option autoImplicit false
noncomputable abbrev toI (ns : List Nat) : List Int := ns.map fun (n : Nat) => (n : Int)
structure Big (t : Nat) (es : List Int) : Prop where
  len : es.length = 5
  ge : ∀ e ∈ es, 90 + 3 * (t : Int) ≤ e
inductive Stt (t : Nat) : Int → List Int → List Int → Prop where
  | zero {es : List Int} (h : Big t es) (ht : t ≤ 3) : Stt t 0 es []
  | pos {k : Int} {ns : List Nat} {b : Nat} (k0 : k ≠ 0) (kb : k.natAbs < 2 ^ (BT + b)) (hb : b + 3 * t ≤ 9) (len : ns.length = 5) (sum : ns.sum + 2 * t ≤ 9) : Stt t k (toI ns) ((PB ns).map (k * ·))
theorem Stt.poly {t : Nat} {k : Int} {es cur : List Int} (h : Stt t k es cur) : Fb k es BASE 64 cur ∧ es.length ≤ LIM := by
  cases h with
  | zero h ht => exact ⟨.zero rfl rfl, by rw [h.len]; decide⟩
  | pos k0 kb hb len sum => exact ⟨Hv k0 ⟨len, by exact Nat.le_trans (Nat.le_add_right _ _) ‹_›⟩, by rw [List.length_map, len]; decide⟩
theorem zip_mem {g : Int → Int → Int} {z : Int} : ∀ {es fs : List Int}, z ∈ zipI g es fs → ∃ x ∈ es, ∃ y ∈ fs, z = g x y
  | [], _, h => by cases h
  | _ :: _, [], h => by cases h
  | x :: es, y :: fs, h => by
    rcases List.mem_cons.mp h with rfl | h
    · exact ⟨x, List.mem_cons_self .., y, List.mem_cons_self .., rfl⟩
    · obtain ⟨x', hx, y', hy, e⟩ := zip_mem h
      exact ⟨x', List.mem_cons_of_mem _ hx, y', List.mem_cons_of_mem _ hy, e⟩
theorem zip_len {g : Int → Int → Int} : ∀ {es fs : List Int}, es.length = fs.length → (zipI g es fs).length = es.length
  | [], [], _ => rfl
  | x :: es, y :: fs, h => congrArg (· + 1) (zip_len (Nat.succ.inj h))
theorem big_zip {g : Int → Int → Int} {t : Nat} {es fs : List Int} (he : es.length = 5) (hf : fs.length = 5) (h : ∀ x ∈ es, ∀ y ∈ fs, 90 + 3 * (t : Int) ≤ g x y) : Big t (zipI g es fs) :=
  ⟨by rw [zip_len (he.trans hf.symm)]; exact he, fun z hz => by
    obtain ⟨x, hx, y, hy, rfl⟩ := zip_mem hz
    exact h x hx y hy⟩
theorem zip_left {g : Int → Int → Int} : ∀ {es fs : List Int}, es.length = fs.length → (∀ x ∈ es, ∀ y ∈ fs, g x y = x) → zipI g es fs = es
  | [], [], _, _ => rfl
  | x :: es, y :: fs, h, hg => by
    show g x y :: zipI g es fs = x :: es
    rw [hg x (List.mem_cons_self ..) y (List.mem_cons_self ..), zip_left (Nat.succ.inj h) fun a ha b hb => hg a (List.mem_cons_of_mem _ ha) b (List.mem_cons_of_mem _ hb)]
theorem zip_right {g : Int → Int → Int} : ∀ {es fs : List Int}, es.length = fs.length → (∀ x ∈ es, ∀ y ∈ fs, g x y = y) → zipI g es fs = fs
  | [], [], _, _ => rfl
  | x :: es, y :: fs, h, hg => by
    show g x y :: zipI g es fs = y :: fs
    rw [hg x (List.mem_cons_self ..) y (List.mem_cons_self ..), zip_right (Nat.succ.inj h) fun a ha b hb => hg a (List.mem_cons_of_mem _ ha) b (List.mem_cons_of_mem _ hb)]
theorem ge_big {es fs : List Int} : (∀ x ∈ es, ∀ y ∈ fs, y ≤ x) → Hy es fs = true := by
  induction es generalizing fs with
  | nil => exact fun _ => rfl
  | cons x es ih =>
    intro h
    cases fs with
    | nil => rfl
    | cons y fs =>
      show (!decide (x < y) && Hy es fs) = true
      rw [ih fun a ha b hb => h a (List.mem_cons_of_mem _ ha) b (List.mem_cons_of_mem _ hb), decide_eq_false (Int.not_lt.mpr (h x (List.mem_cons_self ..) y (List.mem_cons_self ..)))]; rfl
theorem toI_nn {ns : List Nat} {x : Int} (h : x ∈ toI ns) : 0 ≤ x ∧ x ≤ ns.sum := by
  obtain ⟨n, hn, rfl⟩ := List.mem_map.mp h
  exact ⟨Int.natCast_nonneg n, Int.ofNat_le.mpr (le_sum hn)⟩
inductive Oth : Int → List Int → List Int → Prop where
  | zero : Oth 0 [99, 99, 99, 99, 99] []
  | pos {m : Int} {ms : List Nat} (m0 : m ≠ 0) (m6 : m.natAbs ≤ 6) (len : ms.length = 5) (sum : ms.sum ≤ 2) : Oth m (toI ms) ((PB ms).map (m * ·))
theorem Oth.fs5 {m : Int} {fs o : List Int} (h : Oth m fs o) : fs.length = 5 ∧ ∀ y ∈ fs, 0 ≤ y := by
  cases h with
  | zero => decide
  | pos m0 m6 len sum => exact ⟨by rw [List.length_map]; exact len, fun y hy => (toI_nn hy).1⟩
theorem oth_is (size i j : Int) : ∃ o, Oth (Fo size) (bagL (Fo size) [i.fmod 6, j.fmod 6]) o ∧ Fb (Fo size) (bagL (Fo size) [i.fmod 6, j.fmod 6]) BASE 64 o := by
  by_cases h : Fo size = 0
  · rw [h]; exact ⟨[], .zero, .zero rfl rfl⟩
  · rw [bag_nat h]
    have hs := bag_sum [i.fmod 6, j.fmod 6]
    exact ⟨_, .pos h (scale_le size) rfl hs, Hv h ⟨rfl, Nat.le_trans hs (show 2 ≤ 9 by decide)⟩⟩
theorem mul_nil {a b : List Int} (h : a = [] ∨ b = []) : multiply a b = some [] := if_pos h
theorem div_nil (a : List Int) : Ec a [] = some none := if_pos rfl
theorem small6 {ms : List Nat} {m : Int} (h6 : m.natAbs ≤ 6) (hs : ms.sum ≤ 2) : Sm ((PB ms).map (m * ·)) := by
  unfold Sm
  rw [Iy]
  exact Nat.lt_of_le_of_lt (Nat.mul_le_mul h6 (n1_15 (Nat.le_trans hs (by decide)))) (by decide)
theorem map_ne {k : Int} (ns : List Nat) : (PB ns).map (k * ·) ≠ [] := fun e => (gdP ns).ne (List.map_eq_nil_iff.mp e)
set_option tactic.hygienic true in
theorem step_mul {t : Nat} {k m : Int} {es fs cur o : List Int} (S : Stt (t + 1) k es cur) (O : Oth m fs o) : ∃ got, multiply cur o = some got ∧ Be k m = true ∧ Stt t (k * m) (zipI (· + ·) es fs) got := by
  cases S with
  | zero h ht =>
    refine ⟨[], mul_nil (.inl rfl), Jk (by decide), ?_⟩
    rw [Int.zero_mul]
    refine .zero (big_zip h.len O.fs5.1 fun x hx y hy => ?_) (by exact Nat.le_of_succ_le ‹_›)
    have := h.ge x hx
    have := O.fs5.2 y hy
    show _ ≤ x + y
    lia
  | pos k0 kb hb len sum =>
    cases O with
    | zero =>
      refine ⟨[], mul_nil (.inr rfl), mulOk_r (by decide), ?_⟩
      rw [Int.mul_zero]
      refine .zero (big_zip (by rw [List.length_map]; exact len) rfl fun x hx y hy => ?_) (by lia)
      have h1 := (toI_nn hx).1
      have h2 : ∀ y ∈ ([99, 99, 99, 99, 99] : List Int), y = 99 := by decide
      have h3 := h2 y hy
      show _ ≤ x + y
      lia
    | @pos m ms m0 m6 mlen msum =>
      rename_i ns b
      have hn : Bg ns := ⟨len, by exact Nat.le_trans (Nat.le_add_right _ _) ‹_›⟩
      have hm : Bg ms := ⟨mlen, by with_reducible exact Nat.le_trans ‹_› (by decide)⟩
      have hs := small6 (m := m) m6 msum
      have h1 := Ik hn
      have h2 := Ik hm
      obtain ⟨r, e, tr, hr⟩ := multiply_ok (a := (PB ns).map (k * ·)) (b := (PB ms).map (m * ·)) (by rw [List.length_map, List.length_map]; have hL : LIM = 1048576 := rfl; with_reducible exact Nat.le_trans (by repeat' first | assumption | apply Nat.add_le_add | exact Nat.le_refl _) (by decide)) fun x _ => hs.r x
      have hkm := Int.mul_ne_zero k0 m0
      have er : r = (PB (List.zipWith (· + ·) ns ms)).map (k * m * ·) := Gr tr (Ff hkm (gdP _).tr) fun x _ => by
        rw [hr, Ed, Ed, Ed, Fe, Fe, Fe, pv_add x AT ns ms (len.trans mlen.symm), Int.mul_assoc, Int.mul_left_comm (pv AT ns x), ← Int.mul_assoc]
      have hz : zipI (· + ·) (toI ns) (toI ms) = toI (List.zipWith (· + ·) ns ms) := zip_nat fun n m => rfl
      refine ⟨r, e, mulOk_r (Nat.lt_of_le_of_lt m6 (by decide)), ?_⟩
      rw [hz, er]
      refine .pos (b := b + 3) hkm ?_ (by lia) (by rw [List.length_zipWith, len, mlen]; rfl) ?_
      · rw [Int.natAbs_mul, ← Nat.add_assoc, Nat.pow_add]
        exact Nat.lt_of_le_of_lt (Nat.mul_le_mul_left _ (Nat.le_trans m6 (by decide : 6 ≤ 2 ^ 3))) (Nat.mul_lt_mul_of_pos_right kb (by decide))
      · obtain ⟨a, b, c, d, e, rfl⟩ := five len
        obtain ⟨a', b', c', d', e', rfl⟩ := five mlen
        simp only [List.zipWith_cons_cons, List.zipWith_nil_left, List.sum_cons, List.sum_nil] at sum msum ⊢
        lia
theorem step_div {t : Nat} {k m : Int} {es fs cur o : List Int} (S : Stt (t + 1) k es cur) (O : Oth m fs o) : (Ec cur o = some none ∧ Gs m fs k es = false) ∨ ∃ got, Ec cur o = some (some got) ∧ Gs m fs k es = true ∧ m ≠ 0 ∧ Stt t (k.fdiv m) (zipI (· - ·) es fs) got := by
  cases O with
  | zero => exact .inl ⟨div_nil _, if_pos rfl⟩
  | @pos m ms m0 m6 mlen msum =>
    have hm : Bg ms := ⟨mlen, by with_reducible exact Nat.le_trans ‹_› (by decide)⟩
    have hs := small6 (m := m) m6 msum
    have o0 : (PB ms).map (m * ·) ≠ [] := map_ne ms
    have e1 : ∀ k es, Gs m (toI ms) k es = if k.fmod m = 0 then Hy es (toI ms) else false := fun k es => if_neg m0
    cases S with
    | zero h ht =>
      refine .inr ⟨[], (if_neg o0).trans (if_pos rfl), ?_, m0, ?_⟩
      · rw [e1, if_pos (Int.zero_fmod m)]
        refine ge_big fun x hx y hy => ?_
        have := h.ge x hx
        have := (toI_nn hy).2
        lia
      · rw [Int.zero_fdiv]
        refine .zero (big_zip h.len (by rw [List.length_map]; exact mlen) fun x hx y hy => ?_) (by exact Nat.le_of_succ_le ‹_›)
        have := h.ge x hx
        have := (toI_nn hy).2
        show _ ≤ x - y
        lia
    | @pos _ ns b k0 kb hb len sum =>
      have hn : Bg ns := ⟨len, by exact Nat.le_trans (Nat.le_add_right _ _) ‹_›⟩
      have h1 := Ik hn
      have hL : LIM = 1048576 := rfl
      obtain ⟨dy, dn⟩ := divideP_ok (a := (PB ns).map (k * ·)) (b := (PB ms).map (m * ·)) (Ff k0 (gdP ns).tr) (map_ne ns) (Ff m0 (gdP ms).tr) o0 (by rw [List.length_map]; with_reducible exact Nat.lt_of_le_of_lt ‹_› (by decide)) (by rw [List.length_map]; exact lenL hm) hs
      by_cases hd : k.fmod m = 0 ∧ Le ms ns
      · obtain ⟨hkm, hle⟩ := hd
        have hq : k = m * k.fdiv m := (Int.mul_fdiv_cancel' (Int.dvd_of_fmod_eq_zero hkm)).symm
        have q0 : k.fdiv m ≠ 0 := fun e => k0 (by rw [hq, e, Int.mul_zero])
        refine .inr ⟨(PB (sb ns ms)).map (k.fdiv m * ·), dy _ (Ff q0 (gdP _).tr) (fun x => ?_), ?_, m0, ?_⟩
        · have := pv_zw (f := min) (g := (· - ·)) x (fun n m => by lia) AT ns ms (len.trans mlen.symm)
          rw [show List.zipWith min ns ms = ms from mn_of_le (mlen.trans len.symm) hle] at this
          rw [Ed, Ed, Ed, Fe, Fe, Fe, this]
          conv => lhs; rw [hq]
          show m * k.fdiv m * (pv AT ms x * pv AT (sb ns ms) x) = k.fdiv m * pv AT (sb ns ms) x * (m * pv AT ms x)
          rw [Int.mul_comm m, Int.mul_assoc, Int.mul_assoc, Int.mul_comm (pv AT ms x), Int.mul_left_comm m]
        · rw [e1, if_pos hkm]; exact ge_of_le hle
        · rw [zip_sub hle]
          refine .pos (b := b) q0 (Nat.lt_of_le_of_lt ?_ kb) (by lia) (by unfold sb; rw [List.length_zipWith, len, mlen]; rfl) (by have := sum_zw (f := (· - ·)) (fun n m => Nat.sub_le n m) ns ms; show (List.zipWith (· - ·) ns ms).sum + _ ≤ _; lia)
          conv => rhs; rw [hq]
          rw [Int.natAbs_mul]
          exact Nat.le_mul_of_pos_left _ (Int.natAbs_pos.mpr m0)
      · refine .inl ⟨dn fun h => hd (held mlen k0 m0 h), ?_⟩
        rw [e1]
        by_cases hkm : k.fmod m = 0
        · rw [if_pos hkm]
          exact Bool.eq_false_iff.mpr fun h => hd ⟨hkm, le_of_ge h⟩
        · exact if_neg hkm
theorem step_gcd {t : Nat} {k m : Int} {es fs cur o : List Int} (S : Stt (t + 1) k es cur) (O : Oth m fs o) : ∃ got, gcdP cur o = some got ∧ Stt t (Hi k m) (zipI minI es fs) got := by
  have h99 : ∀ y ∈ ([99, 99, 99, 99, 99] : List Int), y = 99 := by decide
  cases S with
  | zero h ht =>
    cases O with
    | zero =>
      refine ⟨[], rfl, .zero (big_zip h.len rfl fun x hx y hy => ?_) (by exact Nat.le_of_succ_le ‹_›)⟩
      have h1 := h.ge x hx
      have h2 := h99 y hy
      unfold minI
      split <;> lia
    | @pos m ms m0 m6 mlen msum =>
      have hm : Bg ms := ⟨mlen, by with_reducible exact Nat.le_trans ‹_› (by decide)⟩
      rw [common_ok m0 m6, zip_right (h.len.trans (by rw [List.length_map]; exact mlen.symm)) fun x hx y hy => by
        have h1 := h.ge x hx
        have h2 := (toI_nn hy).2
        unfold minI
        rw [if_pos (by lia)]]
      have hg : ((Int.gcd 0 m : Nat) : Int) ≠ 0 := by
        have := Int.gcd_pos_of_ne_zero_right 0 m0
        lia
      refine ⟨(PB ms).map (((Int.gcd 0 m : Nat) : Int) * ·), ?_, .pos (b := 0) hg ?_ (by lia) mlen (by lia)⟩
      · have h1 := gcdP_ok (a := []) (gdP ms) (smP hm.sum) (lenL hm) rfl (Em (gdP ms) m0 (lenL hm)) ⟨1, by decide, by
          rw [Ga]
          obtain ⟨l, hl⟩ := En (gdP ms).ne
          have hp : Ev [] (PB ms) = some [] := by
            unfold Ev
            rw [if_neg (fun h => h.elim (Nat.not_lt_zero _) (Nat.not_lt_of_le (lenL hm))), hl]
            exact if_pos (List.length_pos_iff.mpr (gdP ms).ne)
          have e0 : Eg ((PB ms).length + 2) [] (PB ms) = match Ev [] (PB ms) with
            | some r => (match Es r with
              | some y' => Eg ((PB ms).length + 1) (PB ms) y'
              | none => none)
            | none => none := if_neg (gdP ms).ne
          rw [e0, hp]; rfl⟩
        rw [Fi (gdP ms)] at h1
        exact h1
      · have := Nat.le_of_dvd (Int.natAbs_pos.mpr m0) (Int.natAbs_dvd_natAbs.mpr (Int.gcd_dvd_right 0 m))
        exact Nat.lt_of_le_of_lt (Nat.le_trans this m6) (Nat.lt_of_lt_of_le (by decide : 6 < 2 ^ 3) (Jf (by decide)))
  | @pos _ ns b k0 kb hb len sum =>
    have hn : Bg ns := ⟨len, by exact Nat.le_trans (Nat.le_add_right _ _) ‹_›⟩
    cases O with
    | zero =>
      rw [zip_left (by rw [List.length_map, len]; rfl) fun x hx y hy => by
        have h1 := (toI_nn hx).2
        have h2 := h99 y hy
        unfold minI
        rw [if_neg (by lia)]]
      have hk : Hi k 0 = (k.natAbs : Int) := if_pos rfl
      rw [hk]
      refine ⟨(PB ns).map ((k.natAbs : Int) * ·), ?_, .pos (b := b) (by lia) kb (by lia) len (by lia)⟩
      have h1 := gcdP_ok (b := []) (gdP ns) (smP hn.sum) (lenL hn) (Em (gdP ns) k0 (lenL hn)) rfl ⟨1, by decide, by rw [Ga]; rfl⟩
      rw [Fi (gdP ns)] at h1
      have h2 : Int.gcd k (content []) = k.natAbs := Nat.gcd_zero_right _
      rw [h2] at h1
      exact h1
    | @pos m ms m0 m6 mlen msum =>
      have hm : Bg ms := ⟨mlen, by with_reducible exact Nat.le_trans ‹_› (by decide)⟩
      rw [common_ok m0 m6]
      have hg : ((Int.gcd k m : Nat) : Int) ≠ 0 := by
        have := Int.gcd_pos_of_ne_zero_right k m0
        lia
      have hz : zipI minI (toI ns) (toI ms) = toI (mn ns ms) := zip_nat fun n m => by unfold minI; split <;> lia
      rw [hz]
      have hsb : (PB (sb ms ns)).length ≤ 8 := by
        have h1 := bg_sb hm len
        have h2 := len_sum h1.len
        have h3 := sum_zw (f := (· - ·)) (fun n m => Nat.sub_le n m) ms ns
        have h4 : (sb ms ns).sum ≤ ms.sum := h3
        lia
      refine ⟨_, gcdP_bags hn hm (.inr hsb) k0 m0, .pos (b := 0) hg ?_ (by lia) (bg_mn hn mlen).len ?_⟩
      · have := Nat.le_of_dvd (Int.natAbs_pos.mpr m0) (Int.natAbs_dvd_natAbs.mpr (Int.gcd_dvd_right k m))
        exact Nat.lt_of_le_of_lt (Nat.le_trans this m6) (Nat.lt_of_lt_of_le (by decide : 6 < 2 ^ 3) (Jf (by decide)))
      · have h3 := sum_zw (f := min) (fun n m => Nat.min_le_left n m) ns ms
        show (List.zipWith min ns ms).sum + _ ≤ _
        lia
end Mine
end
section
open PySem
namespace Mine
set_option tactic.hygienic false
set_option autoImplicit false
theorem Stt.weak {t : Nat} {k : Int} {es cur : List Int} (h : Stt (t + 1) k es cur) : Stt t k es cur := by
  cases h with
  | zero h ht => exact .zero ⟨h.len, fun e he => by have := h.ge e he; lia⟩ (by exact Nat.le_of_succ_le ‹_›)
  | pos k0 kb hb len sum => exact .pos k0 kb (by lia) len (by lia)
theorem step_ok {t : Nat} {k : Int} {es cur : List Int} (op size i j : Int) (S : Stt (t + 1) k es cur) : ∃ k' es' cur', StepR 64 op size i j k es cur k' es' cur' ∧ Stt t k' es' cur' := by
  obtain ⟨o, O, po⟩ := oth_is size i j
  have pre : Jo 64 size i j k es cur (Fo size) (bagL (Fo size) [i.fmod 6, j.fmod 6]) o := ⟨rfl, rfl, po, S.poly.1, S.poly.2⟩
  by_cases h1 : op.fmod 5 < 2
  · obtain ⟨got, hg, hm, S'⟩ := step_mul S O
    exact ⟨_, _, _, .mul pre h1 hg hm S'.poly.1, S'⟩
  · by_cases h2 : op.fmod 5 < 4
    · rcases step_div S O with ⟨hg, hd⟩ | ⟨got, hg, hd, m0, S'⟩
      · exact ⟨_, _, _, .ref pre h1 h2 hg hd, S.weak⟩
      · exact ⟨_, _, _, .div pre h1 h2 hg hd m0 S'.poly.1, S'⟩
    · obtain ⟨got, hg, S'⟩ := step_gcd S O
      exact ⟨_, _, _, .gcd pre h1 h2 hg S'.poly.1, S'⟩
theorem start_ok {k : Int} (hk : k.natAbs < 2 ^ BT) (a b c : Int) : ∃ cur, Stt 3 k (bagL k [a, b, c]) cur := by
  by_cases h : k = 0
  · rw [h, show bagL 0 [a, b, c] = [99, 99, 99, 99, 99] from if_pos rfl]
    exact ⟨[], .zero ⟨rfl, by decide⟩ (by decide)⟩
  · rw [bag_nat h]
    have := bag_sum [a, b, c]
    exact ⟨_, .pos (b := 0) h (by rw [Nat.add_zero]; exact hk) (by decide) rfl (by
      have h3 : ([a, b, c] : List Int).length = 3 := rfl
      lia)⟩
theorem chk_rr {ms : List Nat} {low d : Int} (h : chkR ms = true) (hl : low ∈ [(-3 : Int), -2, -1, 0, 1, 2]) (hd : d ∈ [(0 : Int), 1, 2, 3]) : rrT 64 (PB ms) low (low + 1 + d) = some (Fj low (low + 1 + d) Io (toI ms) 0) := by
  unfold chkR at h
  unfold rrT
  cases h1 : derivative (PB ms) with
  | none => rw [h1] at h; cases h
  | some d2 =>
    rw [h1] at h
    cases h2 : Ij 64 [] (PB ms) d2 with
    | none => simp only [h2] at h; cases h
    | some L =>
      simp only [h2] at h ⊢
      have h3 := List.all_eq_true.mp h low hl
      cases h4 : Gg L low with
      | none => simp only [h4] at h3; cases h3
      | some u =>
        simp only [h4] at h3 ⊢
        have h5 := List.all_eq_true.mp h3 d hd
        cases h6 : Gg L (low + 1 + d) with
        | none => simp only [h6] at h5; cases h5
        | some v =>
          simp only [h6] at h5 ⊢
          exact congrArg some (eq_of_beq h5)
theorem cntIn_mask {low high : Int} {e e' : Int} (h : (0 < e) ↔ (0 < e')) : ∀ (cs : List Int) (n : Int), Im e low high cs n = Im e' low high cs n
  | [], n => rfl
  | c :: r, n => by
    show Im e low high r (if (decide (e > 0) && _) = true then _ else _) = Im e' low high r (if (decide (e' > 0) && _) = true then _ else _)
    rw [cntIn_mask h r, decide_eq_decide.mpr h]
theorem cnt_mask {low high : Int} : ∀ (cs : List (List Int)) (ns : List Nat) (n : Int), Fj low high cs (toI (ns.map (geN 1))) n = Fj low high cs (toI ns) n
  | [], _, _ => rfl
  | _ :: _, [], _ => rfl
  | c :: cs, m :: ns, n => by
    show Fj low high cs (toI (ns.map (geN 1))) (Im _ low high c n) = Fj low high cs (toI ns) (Im _ low high c n)
    rw [cnt_mask cs ns, cntIn_mask (e := ((geN 1 m : Nat) : Int)) (e' := (m : Int)) (by unfold geN; split <;> lia)]
theorem bit_ge (n : Nat) : geN 1 n ∈ bit := by
  unfold geN; split
  · decide
  · decide
theorem roots_ok {ns : List Nat} (hn : Bg ns) {k : Int} (k0 : k ≠ 0) {low d : Int} (hl : low ∈ [(-3 : Int), -2, -1, 0, 1, 2]) (hd : d ∈ [(0 : Int), 1, 2, 3]) : Iv 64 ((PB ns).map (k * ·)) low (low + 1 + d) = some (Fj low (low + 1 + d) Io (toI ns) 0) := by
  rw [rroots_ok hn k0]
  by_cases h2 : (PB ns).length < 2
  · rw [if_pos h2]
    obtain ⟨a, b, c, d', e, rfl⟩ := five hn.len
    rw [lenP] at h2
    obtain ⟨rfl, rfl, rfl, rfl, rfl⟩ : a = 0 ∧ b = 0 ∧ c = 0 ∧ d' = 0 ∧ e = 0 := by lia
    rfl
  · rw [if_neg h2, ← cnt_mask]
    obtain ⟨a, b, c, d', e, rfl⟩ := five hn.len
    refine chk_rr (ms := [geN 1 a, geN 1 b, geN 1 c, geN 1 d', geN 1 e]) ?_ hl hd
    have h1 := List.all_eq_true.mp chk_all _ (bit_ge a)
    have h1 := List.all_eq_true.mp h1 _ (bit_ge b)
    have h1 := List.all_eq_true.mp h1 _ (bit_ge c)
    have h1 := List.all_eq_true.mp h1 _ (bit_ge d')
    have h1 := List.all_eq_true.mp h1 _ (bit_ge e)
    rcases Bool.or_eq_true_iff.mp h1 with h | h
    · have h := eq_of_beq h
      rw [lenP] at h2
      have g0 : ∀ n, n = 0 ∨ geN 1 n = 1 := fun n => by unfold geN; split <;> lia
      have := g0 a
      have := g0 b
      have := g0 c
      have := g0 d'
      have := g0 e
      exfalso
      lia
    · exact h
theorem filter_flat {β : Type} (q : Int → Bool) (f : Int → β) : ∀ l : List Nat, ((l.map fun (n : Nat) => (n : Int)).filter q).map f = l.flatMap fun (h : Nat) => if q (h : Int) = true then [f (h : Int)] else []
  | [] => rfl
  | n :: l => by
    rw [List.map_cons, List.flatMap_cons, ← filter_flat q f l]
    by_cases h : q (n : Int) = true
    · rw [List.filter_cons_of_pos h, if_pos h]; rfl
    · rw [List.filter_cons_of_neg h, if_neg h]; rfl
theorem any_nat {ns : List Nat} {h : Nat} : ((toI ns).any fun e => e == (h : Int)) = true ↔ h ∈ ns := by
  rw [List.any_eq_true]
  refine ⟨fun ⟨x, hx, e⟩ => ?_, fun hm => ⟨(h : Int), List.mem_map_of_mem hm, beq_self_eq_true _⟩⟩
  obtain ⟨n, hn, rfl⟩ := List.mem_map.mp hx
  have := eq_of_beq e
  rw [← Int.ofNat_inj.mp this]; exact hn
noncomputable def pH (ns : List Nat) (h : Int) : List Int := PB (ns.map (eqN h.toNat))
theorem groups_ok (ns : List Nat) : Ek (toI ns) (pH ns) = (List.range' 1 9).flatMap (gr ns) := by
  unfold Ek
  rw [show [(1 : Int), 2, 3, 4, 5, 6, 7, 8, 9] = (List.range' 1 9).map fun (n : Nat) => (n : Int) from rfl, filter_flat]
  refine congrArg (List.flatMap · (List.range' 1 9)) (funext fun h => ?_)
  unfold gr
  by_cases q : h ∈ ns
  · rw [if_pos q, if_pos (any_nat.mpr q)]; rfl
  · rw [if_neg q, if_neg (mt any_nat.mp q)]
theorem cnt1_nat (ns : List Nat) (h : Nat) : cnt1 (toI ns) (h : Int) = toI (ns.map (eqN h)) := by
  unfold cnt1
  refine (List.map_map ..).trans (Eq.trans ?_ (List.map_map ..).symm)
  refine List.map_congr_left fun e _ => ?_
  show ((([(e : Int)] : List Int).count (h : Int) : Nat) : Int) = ((eqN h e : Nat) : Int)
  rw [List.count_singleton]
  unfold eqN
  by_cases q : e = h
  · rw [if_pos q, q, beq_self_eq_true]; rfl
  · rw [if_neg q, if_neg (fun e => q (Int.ofNat_inj.mp (eq_of_beq e)))]
theorem eq_le (i n : Nat) (hi : 1 ≤ i) : eqN i n ≤ n := by unfold eqN; split <;> (first | exact Nat.zero_le _ | lia)
theorem law_ok (s0 s1 s2 s3 s4 s5 s6 s7 s8 s9 s10 s11 s12 s13 s14 s15 s16 s17 s18 s19 : Int) (h0 : s0.natAbs < 2 ^ BT) (h19 : s19.natAbs < 2 ^ BT) : LawR 64 s0 s1 s2 s3 s4 s5 s6 s7 s8 s9 s10 s11 s12 s13 s14 s15 s16 s17 s18 s19 := by
  obtain ⟨cur0, S0⟩ := start_ok h0 (s1.fmod 6) (s2.fmod 6) (s3.fmod 6)
  obtain ⟨k1, es1, cur1, t1, S1⟩ := step_ok s4 s5 s6 s7 S0
  obtain ⟨k2, es2, cur2, t2, S2⟩ := step_ok s8 s9 s10 s11 S1
  obtain ⟨k, es3, cur, t3, S⟩ := step_ok s12 s13 s14 s15 S2
  have hlow : s16.fmod 6 - 3 ∈ [(-3 : Int), -2, -1, 0, 1, 2] := by
    have h1 := Int.fmod_nonneg_of_pos s16 (show (0 : Int) < 6 by decide)
    have h2 := Int.fmod_lt_of_pos s16 (show (0 : Int) < 6 by decide)
    simp only [List.mem_cons, List.not_mem_nil, or_false]
    lia
  have hd : s17.fmod 4 ∈ [(0 : Int), 1, 2, 3] := by
    have h1 := Int.fmod_nonneg_of_pos s17 (show (0 : Int) < 4 by decide)
    have h2 := Int.fmod_lt_of_pos s17 (show (0 : Int) < 4 by decide)
    simp only [List.mem_cons, List.not_mem_nil, or_false]
    lia
  cases S with
  | zero h ht =>
    have bz : Bg [0, 0, 0, 0, 0] := ⟨rfl, by decide⟩
    have hat := (at_ok h19 bz).1
    refine ⟨cur0, es1, cur1, es2, cur2, es3, [], [0, 0, 0, 0, 0], [], [], [], k1, k2, 0, _, fun _ => [], S0.poly.1, t1, t2, t3, (if_pos rfl).symm, by decide, by decide, rfl, rfl, .zero (if_pos rfl) rfl, rfl, fun i x h => (by cases h), rfl, hat, Jk (by decide), ?_, rfl, .zero rfl rfl, fun h => absurd rfl h, .zero rfl rfl⟩
    rw [Int.zero_mul]; rfl
  | @pos _ ns b k0 kb hb len sum =>
    have hn : Bg ns := ⟨len, sum⟩
    have hl := Ik hn
    have hat := at_ok h19 hn
    obtain ⟨cr, hc, pc⟩ := compose_ok hn k0 (s18.fmod 5).toNat
    have hL : LIM = 1048576 := rfl
    have hml : ((PB ns).map (k * ·)).length ≤ LIM := by rw [List.length_map]; exact lenL hn
    have pcur := Hv k0 hn
    refine ⟨cur0, es1, cur1, es2, cur2, _, _, _, PB ns, dr ((PB ns).map (k * ·)), cr, k1, k2, k, pv AT ns s19, pH ns, S0.poly.1, t1, t2, t3, (if_neg k0).symm, by rw [List.length_map, len]; decide, hml, Fi (gdP ns) k, Em (gdP ns) k0 (lenL hn), ?_, Gn (Ff k0 (gdP ns).tr) hml, ?_, ?_, hat.1, ?_, ?_, hc, pc, fun _ => ⟨?_, ?_, roots_ok hn k0 hlow hd⟩, pcur⟩
    · have := Hv (k := 1) (by decide) hn
      rw [Ga] at this
      rw [if_neg k0]; exact this
    · intro i x h
      have := (List.getElem?_eq_some_iff.mp h).1
      exact Jk (by lia)
    · unfold dr
      generalize (PB ns).map (k * ·) = a
      cases a <;> rfl
    · exact Hg (p := BT + b) (q := (2 + BT * 3) * 9 + 1) kb (Nat.lt_of_le_of_lt hat.2 (two_lt (Nat.lt_succ_self _))) (Nat.le_trans (Nat.add_le_add_right (Nat.add_le_add_left (show b ≤ 9 by exact Nat.le_trans (Nat.le_add_right _ _) ‹_›) BT) _) (by decide))
    · have := value_ok (a := (PB ns).map (k * ·)) h19 (p := BT + b + 15) (Nat.le_trans (Nat.add_le_add_right (Nat.add_le_add_left (show b ≤ 9 by exact Nat.le_trans (Nat.le_add_right _ _) ‹_›) BT) 15) (by decide)) (by
        rw [Iy, Nat.pow_add]; exact Nat.mul_le_mul (Nat.le_of_lt kb) (n1_15 hn.sum)) (by rw [List.length_map]; exact hl)
      rw [this, Ed, Fe]
    · rw [sqf_ok hn k0, groups_ok]
    · intro h hh ha
      obtain ⟨n, hn9, rfl⟩ : ∃ n : Nat, 1 ≤ n ∧ h = (n : Int) := by
        refine ⟨h.toNat, ?_⟩
        simp only [List.mem_cons, List.not_mem_nil, or_false] at hh
        lia
      rw [cnt1_nat]
      have := Hv (k := 1) (by decide) (Jd (f := eqN n) (fun m => eq_le n m hn9) hn)
      rw [Ga] at this
      exact this
end Mine
end
section
open PySem PySem.W PySem.Calls PyProof.Rows PySem.SeqAt
namespace Mine
set_option tactic.hygienic false
set_option autoImplicit false
theorem zip_lookup_some {ps : List Str} {vs : List Value} (hl : vs.length = ps.length) : ∀ n ∈ ps, ((ps.zip vs).lookup n).isNone = false := by
  induction ps generalizing vs with
  | nil => intro n h; cases h
  | cons p r ih =>
    intro n h
    cases vs with
    | nil => simp at hl
    | cons v vs =>
      simp only [List.zip_cons_cons, List.lookup_cons]
      by_cases e : n == p
      · simp [e]
      · simp only [e]
        rcases List.mem_cons.mp h with q | q
        · subst q; simp at e
        · exact ih (by simpa using hl) n q
theorem fm_congr {α β : Type} {f g : α → Option β} : ∀ {l : List α}, (∀ x ∈ l, f x = g x) → l.filterMap f = l.filterMap g
  | [], _ => rfl
  | x :: r, h => by
    rw [List.filterMap_cons, List.filterMap_cons, h x (List.mem_cons_self ..), fm_congr (fun y hy => h y (List.mem_cons_of_mem _ hy))]
theorem zip_binds {ps : List Str} {vs : List Value} (hl : vs.length = ps.length) (hn : ps.Nodup) : ps.filterMap (fun n => ((ps.zip vs).lookup n).map (n, ·)) = ps.zip vs := by
  induction ps generalizing vs with
  | nil => rfl
  | cons p r ih =>
    cases vs with
    | nil => simp at hl
    | cons v vs =>
      have h1 := List.nodup_cons.mp hn
      simp only [List.zip_cons_cons, List.filterMap_cons, List.lookup_cons, beq_self_eq_true, Option.map_some]
      congr 1
      conv => rhs; rw [← ih (by simpa using hl) h1.2]
      refine fm_congr (fun n hnr => ?_)
      have : (n == p) = false := by rw [beq_eq_false_iff_ne]; intro e; subst e; exact h1.1 hnr
      rw [this]
theorem bind_plain {name : Str} {a : Arguments} {body : List Stmt} {sc : Scope} {pm code doc : Value} (h1 : a.posonlyargs = []) (h2 : a.vararg = none) (h3 : a.kwonlyargs = []) (h4 : a.kwarg = none)
    (hn : (a.args.map (·.arg)).Nodup) (vs : List Value) (hl : vs.length = (a.args.map (·.arg)).length) : bindArgs (docDef name a body sc pm code doc) ⟨vs, []⟩ = pure ((a.args.map (·.arg)).zip vs) := by
  have hm := zip_lookup_some hl
  have hb := zip_binds hl hn
  have pb : ∀ {α β : Type} (x : α) (f : α → Sem β), (pure x >>= f) = f x := fun _ _ => rfl
  have hs : seqItems? Value.none = pure none := rfl
  have hmiss : ((a.args.map (·.arg)).take (a.args.map (·.arg)).length).filter (fun n => (((a.args.map (·.arg)).zip vs).lookup n).isNone) = [] := by
    rw [List.filter_eq_nil_iff]
    intro n h
    rw [hm n (List.mem_of_mem_take h)]; simp
  have hgt : ¬ (vs.length > (a.args.map (·.arg)).length) := by lia
  unfold bindArgs docDef
  simp only [h1, h2, h3, h4, List.map_nil, List.nil_append, List.append_nil, List.forIn_nil, pb, hs, Option.getD_none, List.length_nil, Nat.zero_sub, List.drop_zero, Nat.sub_zero, List.drop_nil, List.zip_nil_right, hmiss, hgt, decide_false, Bool.false_and, Bool.false_eq_true, if_false, List.isEmpty_nil, Bool.not_true, hb]
noncomputable def seqAt (h : Heap) (k : String) : Value → Option (List Value)
  | .ref a => match h.get? a with
    | some o => if (o.cls == .type k) = true then (match o.data with | .seq vs _ => if vs.size ≤ LIM then some vs.toList else none | _ => none) else none
    | none => none
  | _ => none
noncomputable def Jt : List Int → List Value → Bool
  | [], [] => true
  | x :: r, .int y _ :: t => x == y && Jt r t
  | _, _ => false
mutual
noncomputable def avAt (h : Heap) : AV → Value → Bool
  | .int i, .int j _ => i == j
  | .ilist xs, v => match seqAt h "list" v with
    | some vs => Jt xs vs
    | none => false
  | .tup xs, v => match seqAt h "tuple" v with
    | some vs => avsAt h xs vs
    | none => false
  | _, _ => false
noncomputable def avsAt (h : Heap) : List AV → List Value → Bool
  | [], [] => true
  | x :: r, v :: t => avAt h x v && avsAt h r t
  | _, _ => false
end
theorem seq_of {h : Heap} {k : String} {v : Value} {vs : List Value} (e : seqAt h k v = some vs) : ∃ a o n, v = .ref a ∧ h.get? a = some o ∧ o.cls = .type k ∧ o.data = .seq vs.toArray n ∧ vs.length ≤ LIM := by
  cases v with
  | ref a =>
    have e : (match h.get? a with
      | some o => if (o.cls == .type k) = true then (match o.data with | .seq vs _ => if vs.size ≤ LIM then some vs.toList else none | _ => none) else none
      | none => none) = some vs := e
    cases ho : h.get? a with
    | none => rw [ho] at e; cases e
    | some o =>
      rw [ho] at e
      simp only at e
      by_cases hk : (o.cls == .type k) = true
      · rw [if_pos hk] at e
        cases hd : o.data with
        | seq ws n =>
          rw [hd] at e
          simp only at e
          by_cases hz : ws.size ≤ LIM
          · rw [if_pos hz] at e
            obtain rfl := Option.some.inj e
            exact ⟨a, o, n, rfl, ho, beq_iff_eq.mp hk, by rw [hd], by simpa using hz⟩
          · rw [if_neg hz] at e; cases e
        | _ => rw [hd] at e; cases e
      · rw [if_neg hk] at e; cases e
  | _ => cases e
theorem ints_at : ∀ {xs : List Int} {vs : List Value}, Jt xs vs = true → DenI xs vs
  | [], [], _ => rfl
  | [], _ :: _, e => by cases e
  | _ :: _, [], e => by cases e
  | x :: r, v :: t, e => by
    cases v with
    | int y n =>
      obtain ⟨h1, h2⟩ := Bool.and_eq_true_iff.mp (show (x == y && Jt r t) = true from e)
      rw [← eq_of_beq h1]
      exact ⟨_, _, rfl, ints_at h2⟩
    | _ => cases e
theorem ints_len : ∀ {xs : List Int} {vs : List Value}, Jt xs vs = true → xs.length = vs.length
  | [], [], _ => rfl
  | [], _ :: _, e => by cases e
  | _ :: _, [], e => by cases e
  | x :: r, v :: t, e => by
    cases v with
    | int y n => exact congrArg (· + 1) (ints_len (Bool.and_eq_true_iff.mp (show (x == y && Jt r t) = true from e)).2)
    | _ => cases e
theorem avs_len {h : Heap} : ∀ {xs : List AV} {vs : List Value}, avsAt h xs vs = true → xs.length = vs.length
  | [], [], _ => rfl
  | [], _ :: _, e => by cases e
  | _ :: _, [], e => by cases e
  | x :: r, v :: t, e => congrArg (· + 1) (avs_len (Bool.and_eq_true_iff.mp (show (avAt h x v && avsAt h r t) = true from e)).2)
mutual
theorem den_av {c : Cx} {h : Heap} : ∀ (x : AV) (v : Value), avAt h x v = true → DenT c h (fun _ => False) x v
  | .int i, v, e => by
    cases v with
    | int j t => simp only [DenT]; exact ⟨t, by rw [eq_of_beq (show (i == j) = true from e)]⟩
    | _ => cases e
  | .ilist xs, v, e => by
    have q : (match seqAt h "list" v with | some vs => Jt xs vs | none => false) = true := e
    clear e
    cases hs : seqAt h "list" v with
    | none => rw [hs] at q; cases q
    | some vs =>
      rw [hs] at q
      obtain ⟨a, o, n, rfl, h1, h2, h3, h4⟩ := seq_of hs
      simp only [DenT]
      exact ⟨a, vs, rfl, ⟨o, h1, h2, n, h3⟩, by rw [ints_len q]; exact h4, ints_at q⟩
  | .tup xs, v, e => by
    have q : (match seqAt h "tuple" v with | some vs => avsAt h xs vs | none => false) = true := e
    clear e
    cases hs : seqAt h "tuple" v with
    | none => rw [hs] at q; cases q
    | some vs =>
      rw [hs] at q
      obtain ⟨a, o, n, rfl, h1, h2, h3, h4⟩ := seq_of hs
      simp only [DenT]
      exact ⟨a, vs, rfl, ⟨o, h1, h2, n, h3⟩, by rw [avs_len q]; exact h4, den_avs xs vs q⟩
  | .none, v, e => by cases e
  | .bool b, v, e => by cases e
  | .str b, v, e => by cases e
  | .list b, v, e => by cases e
  | .plist b, v, e => by cases e
theorem den_avs {c : Cx} {h : Heap} : ∀ (xs : List AV) (vs : List Value), avsAt h xs vs = true → DenL c h (fun _ => False) xs vs
  | [], [], _ => by simp only [DenL]
  | [], _ :: _, e => by cases e
  | _ :: _, [], e => by cases e
  | x :: r, v :: t, e => by
    obtain ⟨h1, h2⟩ := Bool.and_eq_true_iff.mp (show (avAt h x v && avsAt h r t) = true from e)
    simp only [DenL]
    exact ⟨v, t, rfl, ⟨den_av x v h1, fun _ _ q => q⟩, den_avs r t h2⟩
end
noncomputable def tHook (T : List (Str × AV)) : Hook where
  α := Bool
  obs := fun s => T.all fun p => (s.heap.nsMap mainGlobals p.1).any (avAt s.heap p.2)
  val := fun _ => true
  says := fun _ h => ∀ p ∈ T, ∃ v, h.nsMap mainGlobals p.1 = some v ∧ ∀ c, DenT c h (fun _ => False) p.2 v
  of := fun w s e p hp => by
    have h1 := List.all_eq_true.mp e p hp
    obtain ⟨v, h2, h3⟩ := Option.any_eq_true .. |>.mp h1
    exact ⟨v, h2, fun c => den_av p.2 v h3⟩
  keeps := fun w h h' y k p hp => by
    obtain ⟨v, h1, h2⟩ := y p hp
    refine ⟨v, ?_, fun c => DenT.carryTop ⟨fun b o _ e => k b o e, fun _ _ _ q => q⟩ p.2 v (h2 c) fun a o _ e => k a o e⟩
    unfold Heap.nsMap at h1 ⊢
    cases ho : h.get? mainGlobals with
    | none => rw [ho] at h1; cases h1
    | some o => rw [ho] at h1; rw [k _ _ ho]; exact h1
theorem ints_of {R : WRecords} : ∀ {xs : List WData}, WShape.hasItems R xs .int = true → ∃ s : List Int, xs = s.map .int
  | [], _ => ⟨[], rfl⟩
  | d :: r, h => by
    simp only [WShape.hasItems, Bool.and_eq_true] at h
    obtain ⟨i, rfl⟩ := hasW_int h.1
    obtain ⟨s, rfl⟩ := ints_of h.2
    exact ⟨i :: s, rfl⟩
theorem args_of {R : WRecords} {args : List WData} (h : WShape.hasAll R args [.list .int] = true) : ∃ s : List Int, args = [.list (s.map .int)] := by
  obtain ⟨d, r, rfl, h1, h2⟩ := hasAllW_cons h
  obtain rfl := hasAllW_nil h2
  obtain ⟨xs, rfl, h3⟩ := hasW_list h1
  obtain ⟨s, rfl⟩ := ints_of h3
  exact ⟨s, rfl⟩
theorem weight_of : ∀ (s : List Int), s.length ≤ WData.weightAll (s.map .int) ∧ ∀ x ∈ s, Builtin.Int.intBits x ≤ WData.weightAll (s.map .int)
  | [] => ⟨by simp, fun _ h => by cases h⟩
  | x :: r => by
    obtain ⟨h1, h2⟩ := weight_of r
    simp only [List.map_cons, WData.weightAll, List.length_cons]
    refine ⟨by lia, fun y hy => ?_⟩
    rcases List.mem_cons.mp hy with e | e
    · subst e
      have : WData.weight (.int y) = Builtin.Int.intBits y := by simp only [WData.weight, Builtin.Int.intBits]
      lia
    · have := h2 y e; lia
theorem den_i {R : WRecords} {cl : Str → Option Addr} {h : Heap} : ∀ (s : List Int) (vs : List Value) (as : List Addr), ReadsAllW R cl h vs (s.map .int) as → DenI s vs
  | [], vs, as, r => (readsAllW_nil_inv r).1
  | x :: s, vs, as, r => by
    cases (show ReadsAllW R cl h vs (.int x :: s.map .int) as from r) with
    | cons r1 r2 => obtain ⟨t, rfl, _⟩ := readsW_int_inv r1; exact ⟨_, _, rfl, den_i s _ _ r2⟩
theorem den_script {c : Cx} {R : WRecords} {cl : Str → Option Addr} {h : Heap} {s : List Int} {vs : List Value} {as : List Addr} (r : ReadsAllW R cl h vs [.list (s.map .int)] as) (hl : s.length ≤ LIM) : DenL c h (fun _ => False) [.ilist s] vs := by
  cases r with
  | cons r1 r2 =>
    cases r2
    cases r1 with
    | list h1 h2 h3 h4 =>
      simp only [DenL, DenT]
      exact ⟨_, _, rfl, ⟨⟨_, _, rfl, ⟨_, h1, h2, _, by simpa using h3⟩, hl, den_i s _ _ h4⟩, fun _ _ q => q⟩, rfl⟩
theorem same_t : same (WData.bool true) (WData.bool true) = true := by first | decide +kernel | rfl | simp [same]
theorem post_t (l : OpenLaw) (args : List WData) : l.row.toRowW.claim.post args (.bool true) args = true := by
  show (WShape.has l.row.toRowW.records (.bool true) l.row.toRowW.returns && WTm.holds l.row.toRowW.records l.row.toRowW.post { args := args, res := some (.bool true), after := args }) = true
  rw [holdsW_of_value (X := true)]
  · simp [OpenLaw.row, WShape.has, WShape.arms]
  · simp [OpenLaw.row, WTm.value, same_t]
noncomputable def faOf (q : Program) (mg : Str → Option Value) (i : Nat) : Addr := match (recsOf q)[i]? with
  | some d => (match mg d.name with | some (.ref a) => a | _ => 0)
  | none => 0
noncomputable def freeOk (q : Program) (loose : List Str) (x : Str) : Bool :=
  !startupNames.contains x && !(looseW q loose).contains x && !((recsOf q).map (·.name)).contains x && !((litsOf q).map (·.1)).contains x && !((clssOf q (looseW q loose)).map (·.name)).contains x && x != "__name__"
noncomputable def gtOk (q : Program) (loose : List Str) (gt : List (Str × GK)) : Bool := gt.all fun e => match e.2 with
  | .fn i _ => (match (recsOf q)[i]? with | some d => d.name == e.1 | none => false)
  | .bi id => freeOk q loose e.1 && decide (bootBuiltins e.1 = some (.builtin id))
  | .ty n => freeOk q loose e.1 && decide (bootBuiltins e.1 = some (.type n))
  | .tab => true
noncomputable def plainDef (d : DefRec) : Bool := d.params.posonlyargs.isEmpty && d.params.vararg.isNone && d.params.kwonlyargs.isEmpty && d.params.kwarg.isNone && decide (d.params.args.map (·.arg)).Nodup && !d.scope.isGenerator && !d.scope.isCoroutine
noncomputable def cxOf (p : Program) (w : World) (h : Heap) (gt : List (Str × GK)) (GT : Str → Option AV) (q : Program) (mg : Str → Option Value) (fresh : Nat → Bool) : Cx :=
  { prog := p, w := w, hG := h, gt := gt, G := GT, F := fun _ _ => none, fa := faOf q mg, fresh := fresh }
section
variable {q : Program} {loose : List Str} {R : WRecords} {XP : (Str → Option Value) → Heap → Prop} {w : World} {s₀ : Shared} {mg mb : Str → Option Value} {h : Heap} {p : Program}
theorem free_of (G : Ground q loose R XP w s₀ mg mb h) {x : Str} (e : freeOk q loose x = true) : mg x = none ∧ mb x = bootBuiltins x := by
  unfold freeOk at e
  simp only [Bool.and_eq_true, Bool.not_eq_true', bne_iff_ne, ne_eq] at e
  obtain ⟨⟨⟨⟨⟨e1, e2⟩, e3⟩, e4⟩, e5⟩, e6⟩ := e
  have cv : ∀ {l : List Str}, l.contains x = false → x ∉ l := fun {l} q m => by rw [List.contains_iff_mem.mpr m] at q; cases q
  exact ⟨G.T.free x (cv e1) (cv e2) (cv e3) (cv e4) (cv e5), G.T.builtins x e6⟩
theorem cx_ok (G : Ground q loose R XP w s₀ mg mb h) {gt : List (Str × GK)} {T : List (Str × AV)} {fresh : Nat → Bool} (ht : p.given.tree = none) (hse : h.NoSeer) (chk : gtOk q loose gt = true) (Y : (tHook T).says w h)
    (htab : ∀ x, (x, GK.tab) ∈ gt → ∃ av, T.lookup x = some av) : (cxOf p w h gt (T.lookup ·) q mg fresh).Ok where
  glob := fun x k hx => by
    have hm := Bm hx
    have hc := List.all_eq_true.mp chk _ hm
    cases k with
    | fn i b =>
      simp only at hc
      cases hd : (recsOf q)[i]? with
      | none => rw [hd] at hc; cases hc
      | some d =>
        rw [hd] at hc
        have hn : d.name = x := by simpa using hc
        obtain ⟨a, o, pm, code, doc, h1, h2, h3, h4⟩ := G.T.fn d (List.mem_of_getElem? hd)
        have hfa : faOf q mg i = a := by unfold faOf; rw [hd]; simp only; rw [h1]
        refine ⟨.ref a, ⟨mg, mb, G.T.g, G.T.b, .inl (by rw [← hn]; exact h1)⟩, ?_⟩
        exact ⟨by show _ = Value.ref (faOf q mg i); rw [hfa], o, _, by show h.get? (faOf q mg i) = _; rw [hfa]; exact h2, h3⟩
    | bi id =>
      simp only [Bool.and_eq_true, decide_eq_true_eq] at hc
      obtain ⟨f1, f2⟩ := free_of G hc.1
      exact ⟨.builtin id, ⟨mg, mb, G.T.g, G.T.b, .inr ⟨f1, by rw [f2]; exact hc.2⟩⟩, rfl⟩
    | ty n =>
      simp only [Bool.and_eq_true, decide_eq_true_eq] at hc
      obtain ⟨f1, f2⟩ := free_of G hc.1
      exact ⟨.type n, ⟨mg, mb, G.T.g, G.T.b, .inr ⟨f1, by rw [f2]; exact hc.2⟩⟩, rfl⟩
    | tab =>
      obtain ⟨av, h1⟩ := htab x hm
      obtain ⟨v, g1, g2⟩ := Y _ (Bm h1)
      refine ⟨v, ⟨mg, mb, G.T.g, G.T.b, .inl (by rw [G.T.g.eq_nsMap]; exact g1)⟩, fun av' e => ?_⟩
      have : T.lookup x = some av' := e
      rw [h1] at this
      rw [← Option.some.inj this]
      exact ⟨g2 _, fun _ _ z => z⟩
  nolimit := G.T.nolimit
  seer := hse
  tree := ht
  digits := G.T.nodigits
theorem cx_tab (G : Ground q loose R XP w s₀ mg mb h) {gt : List (Str × GK)} {GT : Str → Option AV} {fresh : Nat → Bool} {fs : List (Option MF)} {mu ap : Str → List Str} (hfs : (recsOf q).map (fun d => compF gt fresh (mu d.name) (ap d.name) d.params d.body d.scope) = fs) (hp : (recsOf q).all plainDef = true)
    (hr : ∀ f mf, fs[f]? = some (some mf) → fresh f = true → Au fresh mf.body = true) : FnTab (cxOf p w h gt GT q mg fresh) fs where
  fn := fun f mf hf => by
    have hf0 := hf
    rw [← hfs, List.getElem?_map] at hf
    cases hd : (recsOf q)[f]? with
    | none => rw [hd] at hf; cases hf
    | some d =>
      rw [hd, Option.map_some] at hf
      have hcomp := Option.some.inj hf
      have hdm := List.mem_of_getElem? hd
      have hpl := List.all_eq_true.mp hp d hdm
      simp only [plainDef, Bool.and_eq_true, List.isEmpty_iff, Option.isNone_iff_eq_none, decide_eq_true_eq, Bool.not_eq_true'] at hpl
      obtain ⟨⟨⟨⟨⟨⟨p1, p2⟩, p3⟩, p4⟩, p5⟩, p6⟩, p7⟩ := hpl
      obtain ⟨a, o, pm, code, doc, h1, h2, h3, h4⟩ := G.T.fn d hdm
      have hfa : faOf q mg f = a := by unfold faOf; rw [hd]; simp only; rw [h1]
      refine ⟨_, mu d.name, ap d.name, d.params, d.body, d.scope, ⟨⟨o, _, by show h.get? (faOf q mg f) = _; rw [hfa]; exact h2, h3, rfl, rfl, rfl, rfl, rfl, h4, fun vs hl => bind_plain p1 p2 p3 p4 p5 vs hl⟩, p6, p7⟩, rfl, p5, hcomp, hr f mf hf0⟩
end
end Mine
end
section
open PySem PySem.W PySem.Calls PyProof.Rows PySem.SeqAt
namespace Mine
set_option tactic.hygienic false
set_option autoImplicit false
set_option Elab.async false
set_option maxRecDepth 100000
noncomputable def fnN : List String := ["_trim", "_gcd_int", "_exact_divide", "_positive_rem", "_shrink", "add", "multiply", "derivative", "value", "compose", "divide", "content", "primitive", "gcd", "square_free", "_sign_changes", "real_roots", "_law_at", "_law_poly", "_law_bag", "_law_divides", "_law_common", "_law_groups", "_law_count", "_law_same", "_law_int", "law"]
noncomputable def fr3 (i : Nat) : Bool := i == 0
noncomputable def T3 : List (Str × AV) := [(Str.ofString "_law_atoms", .tup (ATOMS.map encA)), (Str.ofString "_law_base", .int BASE), (Str.ofString "_law_half", .int HALF), (Str.ofString "_law_ceilings", .tup [.tup [.int 0], .tup [.int 1], .tup [.int 0], .tup [.int (-1), .int 2], .tup []]),
  (Str.ofString "_law_scales", .tup [.int 1, .int (-1), .int 2, .int (-2), .int 3, .int (-6), .int 0, .int 1]), (Str.ofString "_law_inner", .tup [.ilist [], .ilist [1], .ilist [-1, 1], .ilist [1, -2], .ilist [0, 1, 1]])]
noncomputable def gt3 : List (Str × GK) := (fnN.zipIdx.map fun d => (Str.ofString d.1, GK.fn d.2 (fr3 d.2))) ++ T3.map (fun p => (p.1, GK.tab)) ++
  ((["len", "abs", "sum", "max", "min"] : List String).map fun s => (Str.ofString s, GK.bi s)) ++
  ((["list", "range", "zip", "enumerate", "type", "ValueError", "int"] : List String).map fun s => (Str.ofString s, GK.ty s))
noncomputable def nmT (l : List (String × List String)) (x : Str) : List Str := ((l.find? fun p => Str.ofString p.1 == x).map fun p => p.2.map Str.ofString).getD []
noncomputable def ap3 : Str → List Str := nmT [("add", ["out"]), ("square_free", ["out"]), ("_sign_changes", ["values"]), ("real_roots", ["chain"]), ("_law_poly", ["out"]), ("_law_groups", ["out"])]
noncomputable def mu3 : Str → List Str := nmT [("_exact_divide", ["rest", "q"]), ("_positive_rem", ["z"]), ("multiply", ["out"]), ("add", ["out"]), ("square_free", ["out"]), ("_sign_changes", ["values"]), ("real_roots", ["chain"]), ("_law_poly", ["out"]), ("_law_groups", ["out"])]
theorem glob3 : Gu (T3.lookup ·) := ⟨rfl, rfl, rfl, rfl, rfl, rfl⟩
theorem fr3s : ∀ f mf, fs3[f]? = some (some mf) → fr3 f = true → Au fr3 mf.body = true := by
  intro f mf hf h
  have : f = 0 := by simpa [fr3] using h
  subst this
  cases hf
  decide +kernel
theorem tab3 : ∀ x, (x, GK.tab) ∈ gt3 → ∃ av, T3.lookup x = some av := by
  intro x hx
  have h : ∀ e ∈ gt3, (match e.2 with | .tab => (T3.lookup e.1).isSome | _ => true) = true := by decide +kernel
  exact Option.isSome_iff_exists.mp (h _ hx)
theorem bits_lt {x : Int} {p : Nat} (h : Builtin.Int.intBits x ≤ p) : x.natAbs < 2 ^ p := by
  by_cases h0 : x = 0
  · rw [h0]; exact Nat.pow_pos (by decide)
  · have hne : x.natAbs ≠ 0 := fun e => h0 (Int.natAbs_eq_zero.mp e)
    unfold Builtin.Int.intBits at h
    rw [if_neg (by simpa using h0)] at h
    exact (Nat.log2_lt hne).mp h
theorem law_true (s : List Int) (hb : ∀ x ∈ s, Builtin.Int.intBits x ≤ 1048576) : runG (T3.lookup ·) fs3 6 26 [.ilist s] = some (.val (.bool true)) := by
  match s with
  | s0 :: s1 :: s2 :: s3 :: s4 :: s5 :: s6 :: s7 :: s8 :: s9 :: s10 :: s11 :: s12 :: s13 :: s14 :: s15 :: s16 :: s17 :: s18 :: s19 :: s =>
    exact S26 glob3 0 (f := 64) (by decide) s (law_ok s0 s1 s2 s3 s4 s5 s6 s7 s8 s9 s10 s11 s12 s13 s14 s15 s16 s17 s18 s19 (bits_lt (hb _ (List.mem_cons_self ..))) (bits_lt (hb _ (by simp only [List.mem_cons, true_or, or_true]))))
  | [] | [_] | [_, _] | [_, _, _] | [_, _, _, _] | [_, _, _, _, _] | [_, _, _, _, _, _] | [_, _, _, _, _, _, _] | [_, _, _, _, _, _, _, _] | [_, _, _, _, _, _, _, _, _] | [_, _, _, _, _, _, _, _, _, _] | [_, _, _, _, _, _, _, _, _, _, _]
  | [_, _, _, _, _, _, _, _, _, _, _, _] | [_, _, _, _, _, _, _, _, _, _, _, _, _] | [_, _, _, _, _, _, _, _, _, _, _, _, _, _] | [_, _, _, _, _, _, _, _, _, _, _, _, _, _, _] | [_, _, _, _, _, _, _, _, _, _, _, _, _, _, _, _]
  | [_, _, _, _, _, _, _, _, _, _, _, _, _, _, _, _, _] | [_, _, _, _, _, _, _, _, _, _, _, _, _, _, _, _, _, _] | [_, _, _, _, _, _, _, _, _, _, _, _, _, _, _, _, _, _, _] => exact S26s 5 (by simp only [List.length_cons, List.length_nil]; decide)
theorem fin3 {q : Program} {loose : List Str} {XP : (Str → Option Value) → Heap → Prop} {d : DefRec} {kwd : List (Str × Expr)} {l : OpenLaw} (hlp : l.prog = PySem.Challenge.pw_sx_r092_3) (hdn : d.name = Str.ofString "law")
    (hse : ∀ {loose R XP w s₀ mg mb h}, Ground q loose R XP w s₀ mg mb h → h.NoSeer) (chk : gtOk q loose gt3 = true) (pl : (recsOf q).all plainDef = true) (rec : (recsOf q).map (fun d => compF gt3 fr3 (mu3 d.name) (ap3 d.name) d.params d.body d.scope) = fs3)
    (nm : (recsOf q)[26]?.map (·.name) = some (Str.ofString "law")) : WalkO q loose XP (tHook T3).says l.row.toRowW d kwd fun f vs => PySem.call f vs := by
  intro w s₀ s₁ mg mb G Y fa o pm cd doc dV kV ho hd hcd hD hmg hg args vals as hpre hlay hrd hwl hlo
  have ok := cx_ok (p := l.prog) (T := T3) (fresh := fr3) G (by rw [hlp]; rfl) (hse G) chk Y tab3
  have ft := cx_tab (p := l.prog) (GT := (T3.lookup ·)) G rec pl fr3s
  obtain ⟨s, rfl⟩ := args_of (pre_splitW hpre).1
  have hw : WData.weightAll (s.map .int) ≤ 1048576 := by
    simp only [WData.layableAll, List.all_cons, List.all_nil, Bool.and_true] at hlay
    have := (layableW_iff.mp hlay).2.2
    simpa only [WData.weight] using this
  obtain ⟨hl, hb⟩ := weight_of s
  have hrun := law_true s (fun x hx => Nat.le_trans (hb x hx) hw)
  have hfa : faOf q mg 26 = fa := by
    obtain ⟨d', h2, h3⟩ := Option.map_eq_some_iff.mp nm
    unfold faOf
    rw [h2]
    simp only [h3]
    rw [← hdn, hmg]
  have hcall := run_topG ok ft hrun callerA s₁ vals (fun _ => False) ⟨rfl, by decide, by decide, ⟨[], rfl⟩⟩
    (fun l hl env he => by cases hl; cases he) (fun _ _ e => e) (fun _ q => q.elim) (fun _ q => q.elim) (fun b hb => by cases hb) (den_script hrd (Nat.le_trans hl hw))
  rw [show (cxOf l.prog w s₁.heap gt3 (T3.lookup ·) q mg fr3).fa 26 = fa from hfa] at hcall
  refine wpAny_mono hcall (fun v s' x => ?_) (fun e s' x => ?_)
  · obtain ⟨y, e, p⟩ := x
    cases e
    obtain ⟨⟨h', tk, rfl, kp⟩, ⟨dv, _⟩, _, _⟩ := p
    simp only [DenT] at dv
    subst dv
    exact GoodW.toG ⟨.inl ⟨_, .bool true, [], rfl, fun cls => rfl, .bool true, post_t _ _, fun _ => ⟨List.nodup_nil, fun a h => by cases h⟩⟩, fun b o e => (kp b o e).1 (by intro h; cases h), rfl, hg⟩
  · cases x.1
end Mine
end
open PySem PySem.W PyProof.Rows
set_option Elab.async false
set_option maxRecDepth 100000 in
set_option maxHeartbeats 8000000 in
theorem PySem.Challenge.cw_sx_r092_3_holds : PySem.Challenge.rw_sx_r092_3.Holds := by
  w_on
  refine holds_law (by decide +kernel) fun said => ?_
  o_head (Mine.tHook Mine.T3)
  (case hw => w_witness2)
  exact Mine.fin3 rfl rfl (fun G => G.T.seer (by decide +kernel)) (by decide +kernel) (by decide +kernel) (by kernel_rfl) (by decide +kernel)
