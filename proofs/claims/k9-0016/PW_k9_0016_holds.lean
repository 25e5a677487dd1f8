import PyProof.Rows.All
import Wide.All
import OpenK.AllK
import Wide.FinOn
import OpenK.KMake
import OpenK.TopRead
import OpenK.KCls
import OpenK.KWalk
import OpenK.KCell
import KE.KEqDat
import KE.KItem
import KE.KStateDown
import PyProof.IsiHeapPairs
import PyProof.IsiPairs
import PyProof.WalkInts
import PyProof.TypeOfCall
import KE.KDictSum
import PyProof.Rows.SumAny
import PyProof.ZipIter
import OpenK.KCall
import Wide.BridgeG
import Open.Boot
import PySem.Challenge.RW_k9_0016
set_option Elab.async false
set_option linter.all false
set_option autoImplicit false
set_option genSizeOf false
set_option genInjectivity false
set_option bootstrap.genMatcherCode false
noncomputable section
set_option compiler.extract_closed false
namespace ML
inductive V where
  | none
  | bool (b : Bool)
  | int (i : Int)
  | str (k : Nat)
  | flt (b : UInt64)
  | ref (a : Nat)
inductive O where
  | list (xs : List V)
  | ro (xs : List V)
  | tup (xs : List V)
  | inst (c : Nat) (fs : List (Nat × V))
  | dict (es : List (Int × V))
  | rng (a b : Int)
noncomputable def O.seq? : O → Option (List V)
  | .list xs => some xs
  | .ro xs => some xs
  | .tup xs => some xs
  | _ => none
noncomputable def O.lst? : O → Option (List V)
  | .list xs => some xs
  | .ro xs => some xs
  | _ => none
noncomputable abbrev Heap := Nat → Option O
noncomputable def Heap.upd (H : Heap) (a : Nat) (o : O) : Heap := fun b => if b = a then some o else H b
noncomputable def Heap.le (H H' : Heap) : Prop := ∀ a o, H a = some o → H' a = some o
noncomputable abbrev Loc := List (Option V)
inductive Flow where
  | next | brk | cont
  | ret (v : V)
inductive Bop where | add | sub | mul | fdiv | mod | pow
inductive Cop where | eq | ne | lt | le | gt | ge | is | isnot | isin | notin
inductive Prim where
  | len | abs | min | max | sum | sorted | list
  | tyList | tyInt | tyTuple | tyBool
  | isList | isBool | isCanopy
  | nan
  | degs | rooms
  | lrange
  | spare | same
  | range
mutual
inductive E where
  | var (i : Nat)
  | lit (v : V)
  | bop (o : Bop) (a b : E)
  | neg (a : E)
  | cmp (o : Cop) (a b : E)
  | cmp2 (o1 o2 : Cop) (a b c : E)
  | and (a b : E)
  | or (a b : E)
  | not (a : E)
  | call (f : Nat) (args : List E)
  | meth (f : Nat) (self : E) (args : List E)
  | new (c : Nat) (args : List E)
  | prim (p : Prim) (args : List E)
  | attr (o : E) (i : Nat)
  | idx (o i : E)
  | slice (o : E) (lo hi : Option E)
  | list (es : List E)
  | tup (es : List E)
  | dict0
  | comp (elt : E) (k : Nat) (src : Src) (cond : Option E)
inductive Src where
  | rng1 (n : E)
  | rng2 (a b : E)
  | rng3 (a b : E) (down : Bool)
  | rngS (a b st : E)
  | of (e : E)
  | zip (a b : E)
end
inductive S where
  | assign (i : Nat) (e : E)
  | unpack (is : List Nat) (e : E)
  | setAttr (o : E) (i : Nat) (e : E)
  | setIdx (o i e : E)
  | delIdx (o i : E)
  | append (o e : E)
  | expr (e : E)
  | ret (e : Option E)
  | ite (c : E) (a b : List S)
  | whl (c : E) (b : List S)
  | for1 (tgt : List Nat) (src : Src) (b : List S)
  | forz (i j : Nat) (x y : E) (b : List S)
  | forp (i : Nat) (x y : E) (b : List S)
  | brk
  | pass
set_option genInjectivity true in
inductive D where
  | none
  | int (i : Int)
  | str (k : Nat)
  | list (ds : List D)
  | tup (ds : List D)
inductive All2 {α β : Type} (R : α → β → Prop) : List α → List β → Prop where
  | nil : All2 R [] []
  | cons {a b as bs} : R a b → All2 R as bs → All2 R (a :: as) (b :: bs)
theorem All2.length {α β : Type} {R : α → β → Prop} : ∀ {l : List α} {m : List β}, All2 R l m → l.length = m.length
  | _, _, .nil => rfl
  | _, _, .cons _ r => congrArg (· + 1) r.length
theorem All2.append {α β : Type} {R : α → β → Prop} : ∀ {l l' : List α} {m m' : List β}, All2 R l m → All2 R l' m' → All2 R (l ++ l') (m ++ m')
  | _, _, _, _, .nil, y => y
  | _, _, _, _, .cons a r, y => .cons a (r.append y)
theorem All2.get {α β : Type} {R : α → β → Prop} : ∀ {l : List α} {m : List β} {i : Nat} {b : β}, All2 R l m → m[i]? = some b → ∃ a, l[i]? = some a ∧ R a b
  | _, _, 0, _, .cons a _, e => by cases e; exact ⟨_, rfl, a⟩
  | _, _, i + 1, _, .cons _ r, e => r.get (i := i) e
theorem All2.get' {α β : Type} {R : α → β → Prop} : ∀ {l : List α} {m : List β} {i : Nat} {a : α}, All2 R l m → l[i]? = some a → ∃ b, m[i]? = some b ∧ R a b
  | _, _, 0, _, .cons a _, e => by cases e; exact ⟨_, rfl, a⟩
  | _, _, i + 1, _, .cons _ r, e => r.get' (i := i) e
noncomputable def RdA : V → D → Prop
  | .none, .none => True
  | .int i, .int j => i = j
  | .str k, .str l => k = l
  | _, _ => False
noncomputable def Rd (H : Heap) : Nat → V → D → Prop
  | 0, v, d => RdA v d
  | n + 1, v, d => RdA v d ∨
      (∃ a o xs ds, v = .ref a ∧ H a = some o ∧ o.lst? = some xs ∧ d = .list ds ∧ All2 (Rd H n) xs ds) ∨
      (∃ a xs ds, v = .ref a ∧ H a = some (.tup xs) ∧ d = .tup ds ∧ All2 (Rd H n) xs ds)
noncomputable def lim : Nat := 1000000
noncomputable def mid (i : Int) : Prop := -(2 ^ 62) ≤ i ∧ i < 2 ^ 62
noncomputable abbrev PV := V → Heap → Prop
noncomputable abbrev PS := Flow → Loc → Heap → Prop
theorem absG {G : Prop} (h : ∀ C : Prop, (G → C) → C) : G := h G id
noncomputable def allocW (o : O) (H : Heap) (Q : PV) : Prop := ∀ a, H a = none → Q (.ref a) (H.upd a o)
noncomputable def f225 : UInt64 := 0x4002000000000000
noncomputable def f275 : UInt64 := 0x4006000000000000
noncomputable def f35 : UInt64 := 0x400C000000000000
noncomputable def f45 : UInt64 := 0x4012000000000000
noncomputable def f55 : UInt64 := 0x4016000000000000
noncomputable def twice (b : UInt64) : Option UInt64 := if b == f225 then some f45 else if b == f275 then some f55 else none
noncomputable def less1 (b : UInt64) : Option UInt64 := if b == f45 then some f35 else if b == f55 then some f45 else none
noncomputable def halfOf (b : UInt64) : Option Int := if b == f35 then some 3 else if b == f45 then some 4 else none
noncomputable def intW2 (a b : V) (F : Int → Int → Prop) : Prop :=
  match a with
  | .int x => (match b with | .int y => F x y | _ => False)
  | _ => False
noncomputable def addL (p q : Nat) (H : Heap) (Q : PV) : Prop :=
  match H p with
  | some (.list xs) => (match H q with
    | some (.list ys) => xs.length + ys.length ≤ lim ∧ allocW (.list (xs ++ ys)) H Q
    | _ => False)
  | _ => False
noncomputable def addW (a b : V) (H : Heap) (Q : PV) : Prop :=
  match a with
  | .int x => (match b with | .int y => Q (.int (x + y)) H | _ => False)
  | .ref p => (match b with | .ref q => addL p q H Q | _ => False)
  | _ => False
noncomputable def mulW (a b : V) (H : Heap) (Q : PV) : Prop :=
  match a with
  | .int x => (match b with
    | .int y => (mid x ∨ mid y) ∧ Q (.int (x * y)) H
    | _ => False)
  | _ => False
noncomputable def bopW (op : Bop) (a b : V) (H : Heap) (Q : PV) : Prop :=
  match op with
  | .add => addW a b H Q
  | .sub => intW2 a b fun x y => Q (.int (x - y)) H
  | .mul => mulW a b H Q
  | .fdiv => intW2 a b fun x y => 0 < y ∧ y < 2 ^ 30 ∧ Q (.int (x / y)) H
  | .mod => intW2 a b fun x y => 0 < y ∧ Q (.int (x % y)) H
  | .pow => intW2 a b fun x y => 0 ≤ y ∧ y < 64 ∧ 0 ≤ x ∧ x < 2 ^ 16 ∧ Q (.int (x ^ y.toNat)) H
noncomputable def negW (a : V) (H : Heap) (Q : PV) : Prop :=
  match a with
  | .int x => Q (.int (-x)) H
  | _ => False
noncomputable def isSame? : V → V → Option Bool
  | .none, .none => some true
  | .bool a, .bool b => some (a == b)
  | .none, .bool _ => some false
  | .bool _, .none => some false
  | .none, .ref _ => some false
  | .ref _, .none => some false
  | .bool _, .ref _ => some false
  | .ref _, .bool _ => some false
  | .int _, .none => some false
  | .none, .int _ => some false
  | .flt _, .none => some false
  | .none, .flt _ => some false
  | .str _, .none => some false
  | .int _, .bool _ => some false
  | .int _, .ref _ => some false
  | _, _ => none
noncomputable def notTup : Option O → Prop
  | some (.tup _) => False
  | some _ => True
  | none => False
noncomputable def isW (a b : V) (H : Heap) (Q : Bool → Prop) : Prop :=
  match a, b with
  | .ref p, .ref q => (p = q → Q true) ∧ (p ≠ q → notTup (H p) ∧ (H q).isSome = true ∧ Q false)
  | a, b => match isSame? a b with
    | some r => Q r
    | none => False
noncomputable def depthMax : Nat := 5
noncomputable def qnan : UInt64 := 0x7ff8000000000000
noncomputable def eqW (a b : V) (H : Heap) (Q : Bool → Prop) : Prop :=
  (∃ da db, Rd H depthMax a da ∧ Rd H depthMax b db ∧ ∀ r : Bool, (r = true ↔ da = db) → Q r) ∨
  (∃ (p q : Nat) (ps : List Nat), a = .ref p ∧ b = .ref q ∧ H p = some (.list (ps.map V.ref)) ∧ H q = some (.list (ps.map V.ref)) ∧ Q true)
noncomputable def inW (a b : V) (H : Heap) (Q : Bool → Prop) : Prop :=
  False
noncomputable def ordW (f : Int → Int → Bool) (a b : V) (Q : Bool → Prop) : Prop := intW2 a b fun x y => Q (f x y)
noncomputable def eqsW (fi : Int → Int → Bool) (fb : Bool → Bool → Bool) (fs : Nat → Nat → Bool) (Fl : Int → UInt64 → Prop) (a b : V) (E : Prop) (Q : Bool → Prop) : Prop :=
  match a with
  | .int x => (match b with | .int y => Q (fi x y) | _ => E)
  | .bool x => (match b with | .bool y => Q (fb x y) | _ => E)
  | .str x => (match b with | .str y => Q (fs x y) | _ => E)
  | _ => E
noncomputable def cmpW (op : Cop) (a b : V) (H : Heap) (Q : Bool → Prop) : Prop :=
  match op with
  | .lt => ordW (fun x y => decide (x < y)) a b Q
  | .le => ordW (fun x y => decide (x ≤ y)) a b Q
  | .gt => ordW (fun x y => decide (y < x)) a b Q
  | .ge => ordW (fun x y => decide (y ≤ x)) a b Q
  | .eq => eqsW (fun x y => decide (x = y)) (fun x y => decide (x = y)) (fun x y => decide (x = y)) (fun _ _ => False) a b (eqW a b H Q) Q
  | .ne => eqsW (fun x y => decide (x ≠ y)) (fun x y => decide (x ≠ y)) (fun x y => decide (x ≠ y)) (fun x b => eqW (.int x) (.flt b) H fun r => Q (!r)) a b (eqW a b H fun r => Q (!r)) Q
  | .is => isW a b H Q
  | .isnot => isW a b H fun r => Q (!r)
  | .isin => inW a b H Q
  | .notin => inW a b H fun r => Q (!r)
noncomputable def truthW (v : V) (_H : Heap) (Q : Bool → Prop) : Prop :=
  match v with
  | .none => Q false
  | .bool b => Q b
  | .int i => Q (decide (i ≠ 0))
  | _ => False
noncomputable def O.dic? : O → Option (List (Int × V))
  | .dict es => some es
  | _ => none
noncomputable def idxO (x : O) (k : Int) (Q : V → Prop) : Prop :=
  match x.dic? with
  | some es => ∃ v, es.lookup k = some v ∧ Q v
  | none => 0 ≤ k ∧ k < lim ∧ ∃ xs v, x.seq? = some xs ∧ xs[k.toNat]? = some v ∧ Q v
noncomputable def idxW (o i : V) (H : Heap) (Q : V → Prop) : Prop :=
  match o, i with
  | .ref p, .int k =>
    match H p with
    | some x => idxO x k Q
    | none => False
  | _, _ => False
noncomputable def cut {α : Type} (xs : List α) (lo hi : Option Int) : List α :=
  let ys := match hi with | some h => xs.take h.toNat | none => xs
  match lo with | some l => ys.drop l.toNat | none => ys
noncomputable def partOk : Option V → Option (Option Int) → Prop
  | none, r => r = some none
  | some (.int i), r => 0 ≤ i ∧ r = some (some i)
  | some _, _ => False
noncomputable def part? : Option V → Option (Option Int)
  | none => some none
  | some (.int i) => some (some i)
  | some _ => none
noncomputable def nonneg? : Option Int → Prop
  | none => True
  | some i => 0 ≤ i
noncomputable def tsliceW (xs : List V) (l h : Option Int) (H : Heap) (Q : PV) : Prop :=
  match l, h with
  | none, some k => 0 ≤ k ∧ k.toNat < xs.length ∧ xs.length ≤ lim ∧ allocW (.tup (xs.take k.toNat)) H Q
  | _, _ => False
noncomputable def sliceW (o : V) (lo hi : Option V) (H : Heap) (Q : PV) : Prop :=
  match o, part? lo, part? hi with
  | .ref p, some l, some h =>
    match H p with
    | some x => nonneg? l ∧ nonneg? h ∧ ∃ xs, x.lst? = some xs ∧ xs.length ≤ lim ∧ allocW (.list (cut xs l h)) H Q
    | none => False
  | _, _, _ => False
noncomputable def setF (fs : List (Nat × V)) (i : Nat) (v : V) : List (Nat × V) :=
  match fs with
  | [] => [(i, v)]
  | (j, w) :: r => if j = i then (i, v) :: r else (j, w) :: setF r i v
noncomputable def attrW (o : V) (i : Nat) (H : Heap) (Q : V → Prop) : Prop :=
  match o with
  | .ref p => match H p with
    | some (.inst _ fs) => ∃ v, fs.lookup i = some v ∧ Q v
    | _ => False
  | _ => False
noncomputable def setAttrW (o : V) (i : Nat) (v : V) (H : Heap) (Q : Heap → Prop) : Prop :=
  match o with
  | .ref p => match H p with
    | some (.inst c fs) => fs.length ≤ 100 ∧ Q (H.upd p (.inst c (setF fs i v)))
    | _ => False
  | _ => False
noncomputable def dset (es : List (Int × V)) (k : Int) (v : V) : List (Int × V) :=
  match es with
  | [] => [(k, v)]
  | (j, w) :: r => if j = k then (j, v) :: r else (j, w) :: dset r k v
noncomputable def setIdxW (o i v : V) (H : Heap) (Q : Heap → Prop) : Prop :=
  match o, i with
  | .ref p, .int k => match H p with
    | some (.list xs) => 0 ≤ k ∧ k < xs.length ∧ k < lim ∧ Q (H.upd p (.list (xs.set k.toNat v)))
    | some (.dict es) => es.length ≤ lim ∧ Q (H.upd p (.dict (dset es k v)))
    | _ => False
  | _, _ => False
noncomputable def delIdxW (o i : V) (H : Heap) (Q : Heap → Prop) : Prop :=
  match o, i with
  | .ref p, .int k => match H p with
    | some (.list xs) => 0 ≤ k ∧ k < xs.length ∧ xs.length ≤ lim ∧ Q (H.upd p (.list (xs.eraseIdx k.toNat)))
    | _ => False
  | _, _ => False
noncomputable def appendW (o v : V) (H : Heap) (Q : Heap → Prop) : Prop :=
  match o with
  | .ref p => match H p with
    | some (.list xs) => xs.length ≤ lim ∧ Q (H.upd p (.list (xs ++ [v])))
    | _ => False
  | _ => False
noncomputable def isCanW (vs : List V) (H : Heap) (Q : PV) : Prop :=
  match vs with
  | [.ref a] => (match H a with
    | some (.inst 1 _) => Q (.bool true) H
    | _ => False)
  | _ => False
noncomputable def nanW (vs : List V) (H : Heap) (Q : PV) : Prop :=
  match vs with
  | [] => Q (.flt qnan) H
  | _ => False
noncomputable def degsL : List V := [.int 2, .int 2, .int 3, .int 4, .flt f225, .flt f225, .flt f225, .flt f275]
noncomputable def roomsL : List V := [.int 64, .int 64, .int 64, .int 64, .int 3, .int 3, .int 3, .int 4]
noncomputable def gList : Prim → List V
  | .degs => degsL
  | .rooms => roomsL
  | _ => []
noncomputable def tabW (xs vs : List V) (H : Heap) (Q : PV) : Prop :=
  match vs with
  | [.int i] => 0 ≤ i ∧ i < 2 ^ 60 ∧ ∃ v, xs[i.toNat]? = some v ∧ Q v H
  | _ => False
noncomputable def ints? : List V → Option (List Int)
  | [] => some []
  | .int i :: r => (ints? r).map (i :: ·)
  | _ => none
noncomputable def lenW (vs : List V) (H : Heap) (Q : PV) : Prop :=
  match vs with
  | [.ref a] => (match H a with
    | some x => (∃ xs, x.seq? = some xs ∧ Q (.int xs.length) H)
    | none => False)
  | _ => False
noncomputable def int1W (f : Int → V) (vs : List V) (H : Heap) (Q : PV) : Prop :=
  match vs with
  | [.int i] => Q (f i) H
  | _ => False
noncomputable def int2W (f : Int → Int → V) (vs : List V) (H : Heap) (Q : PV) : Prop :=
  match vs with
  | [.int i, .int j] => Q (f i j) H
  | _ => False
noncomputable def lstW (vs : List V) (H : Heap) (Q : PV) : Prop :=
  match vs with
  | [.ref a] => (match H a with
    | some x => x.lst?.isSome = true ∧ Q (.bool true) H
    | none => False)
  | _ => False
noncomputable def tupW (vs : List V) (H : Heap) (Q : PV) : Prop :=
  match vs with
  | [.ref a] => (match H a with
    | some (.tup _) => Q (.bool true) H
    | _ => False)
  | _ => False
noncomputable def bool1W (vs : List V) (H : Heap) (Q : PV) : Prop :=
  match vs with
  | [.bool _] => Q (.bool true) H
  | _ => False
noncomputable def copyW (vs : List V) (H : Heap) (Q : PV) : Prop :=
  match vs with
  | [.ref a] => (match H a with
    | some x => ∃ xs, x.seq? = some xs ∧ xs.length ≤ lim ∧ allocW (.list xs) H Q
    | none => False)
  | _ => False
noncomputable def sumZ : List Int → Int
  | [] => 0
  | x :: r => x + sumZ r
noncomputable def sumW (vs : List V) (H : Heap) (Q : PV) : Prop :=
  match vs with
  | [.ref a] => (match H a with
    | some x => ∃ ns, x.lst? = some (ns.map V.int) ∧ Q (.int (sumZ ns)) H
    | none => False)
  | _ => False
noncomputable def O.keys? : O → Option (List V)
  | .dict es => some (es.map fun e => .int e.1)
  | x => x.lst?
noncomputable def sortW (vs : List V) (H : Heap) (Q : PV) : Prop :=
  match vs with
  | [.ref a] => (match H a with
    | some x => (∃ ns, x.keys? = some (ns.map V.int) ∧ ns.length < 64 ∧ ∀ ks : List Int, ks.Perm ns → ks.Pairwise (· ≤ ·) → allocW (.list (ks.map V.int)) H Q)
    | none => False)
  | _ => False
noncomputable def lrangeW (vs : List V) (H : Heap) (Q : PV) : Prop :=
  match vs with
  | [.int n] => n ≤ lim ∧ 0 ≤ n ∧ allocW (.list ((List.range n.toNat).map fun i : Nat => V.int i)) H Q
  | _ => False
noncomputable def rangeW (vs : List V) (H : Heap) (Q : PV) : Prop :=
  match vs with
  | [.int a, .int b] => mid a ∧ mid b ∧ allocW (.rng a b) H Q
  | _ => False
noncomputable def primW (p : Prim) (vs : List V) (H : Heap) (Q : PV) : Prop :=
  match p with
  | .len => lenW vs H Q
  | .abs => int1W (fun i => .int i.natAbs) vs H Q
  | .min => int2W (fun i j => .int (if j < i then j else i)) vs H Q
  | .max => int2W (fun i j => .int (if i < j then j else i)) vs H Q
  | .tyList => lstW vs H Q
  | .isList => lstW vs H Q
  | .tyTuple => tupW vs H Q
  | .tyInt => int1W (fun _ => .bool true) vs H Q
  | .tyBool => bool1W vs H Q
  | .isBool => bool1W vs H Q
  | .list => copyW vs H Q
  | .sum => sumW vs H Q
  | .sorted => sortW vs H Q
  | .range => rangeW vs H Q
  | _ => False
noncomputable def rngList (a n : Int) : List V := (List.range (n - a).toNat).map fun i : Nat => V.int (a + i)
noncomputable def rngStep (a n st : Int) : List V := (List.range ((n - a + (st - 1)) / st).toNat).map fun i : Nat => V.int (a + i * st)
noncomputable def rngDown (a n : Int) : List V := (List.range (a - n).toNat).map fun i : Nat => V.int (a - i)
noncomputable def bindTo (tgt : List Nat) (x : V) (H : Heap) (m : Loc) (Q : Loc → Prop) : Prop :=
  match tgt with
  | [i] => Q (m.set i (some x))
  | [i, j] => match x with
    | .ref p => match H p with
      | some (.tup [u, v]) => Q ((m.set i (some u)).set j (some v))
      | _ => False
    | _ => False
  | _ => False
noncomputable def setAll (m : Loc) : List Nat → List V → Loc
  | i :: is, v :: vs => setAll (m.set i (some v)) is vs
  | _, _ => m
noncomputable def unpW (tgt : List Nat) (x : V) (H : Heap) (m : Loc) (Q : Loc → Prop) : Prop :=
  match x with
  | .ref p => match H p with
    | some (.tup vs) => vs.length = tgt.length ∧ Q (setAll m tgt vs)
    | _ => False
  | _ => False
noncomputable def bindNew (k : Nat) (x : V) (_H : Heap) (m : Loc) (Q : Loc → Prop) : Prop :=
  match k with
  | 1 => Q (m ++ [some x])
  | _ => False
noncomputable def compW (elt : Loc → Heap → PV → Prop) (cond : Loc → Heap → (Bool → Heap → Prop) → Prop) (k : Nat) (ok : Heap → Prop) (m : Loc) : List V → List V → Heap → PV → Prop
  | [], acc, H, Q => ok H ∧ acc.length ≤ lim ∧ allocW (.list acc) H Q
  | x :: xs, acc, H, Q => ok H ∧ acc.length ≤ lim ∧ bindNew k x H m fun m' => cond m' H fun b H =>
      if b then elt m' H fun v H => ∃ H', H'.le H ∧ compW elt cond k ok m xs (acc ++ [v]) H' Q
      else compW elt cond k ok m xs acc H Q
noncomputable def varW (o : Option (Option V)) (Q : V → Prop) : Prop :=
  match o with
  | some (some v) => Q v
  | _ => False
noncomputable def methCls (f : Nat) : Nat := if f ≤ 4 then 0 else 1
noncomputable def isInst (H : Heap) (c : Nat) : V → Prop
  | .ref p => (match H p with | some (.inst c' _) => c' = c | _ => False)
  | _ => False
noncomputable def rng1W (x : V) (Q : List V → Prop) : Prop :=
  match x with
  | .int n => mid n ∧ Q (rngList 0 n)
  | _ => False
noncomputable def rng2W (down : Bool) (x y : V) (Q : List V → Prop) : Prop :=
  match x, y with
  | .int a, .int b => mid a ∧ mid b ∧ Q (if down then rngDown a b else rngList a b)
  | _, _ => False
noncomputable def rngSW (x y z : V) (Q : List V → Prop) : Prop :=
  match x, y, z with
  | .int a, .int b, .int c => mid a ∧ mid b ∧ 0 < c ∧ c ≤ 1000000 ∧ Q (rngStep a b c)
  | _, _, _ => False
noncomputable def O.itr? : O → Option (List V)
  | .rng a b => some (rngList a b)
  | x => x.lst?
noncomputable def ofW (x : V) (H : Heap) (Q : List V → (Heap → Prop) → Prop) : Prop :=
  match x with
  | .ref p => (match H p with | some o => ∃ xs, o.itr? = some xs ∧ Q xs (fun H => H p = some o) | none => False)
  | _ => False
noncomputable def isLst (H : Heap) : V → Prop
  | .ref p => (match H p with | some (.list _) => True | _ => False)
  | _ => False
noncomputable def dropW (v : V) (P : Prop) : Prop :=
  match v with
  | .ref _ => False
  | _ => P
noncomputable def thenW (k : Loc → Heap → Prop) (Q : PS) : PS := fun fl m H =>
  match fl with
  | .next => k m H
  | fl => Q fl m H
noncomputable def turnW (k : Loc → Heap → Prop) (Q : PS) : PS := fun fl m H => ∃ H', H'.le H ∧
  match fl with
  | .next | .cont => k m H'
  | .brk => Q .next m H'
  | .ret v => Q (.ret v) m H'
noncomputable def forW (body : Loc → Heap → PS → Prop) (tgt : List Nat) (ok : Heap → Prop) : List V → Loc → Heap → PS → Prop
  | [], m, H, Q => ok H ∧ Q .next m H
  | x :: xs, m, H, Q => ok H ∧ bindTo tgt x H m fun m => body m H (turnW (fun m H => forW body tgt ok xs m H Q) Q)
noncomputable def forzL (body : Loc → Heap → PS → Prop) (i j : Nat) (ok : Heap → Prop) : List (V × V) → Loc → Heap → PS → Prop
  | [], m, H, Q => ok H ∧ Q .next m H
  | x :: xs, m, H, Q => ok H ∧ body ((m.set i (some x.1)).set j (some x.2)) H (turnW (fun m H => forzL body i j ok xs m H Q) Q)
noncomputable def zipOk (p q : Nat) (ps : List (V × V)) (H : Heap) : Prop := H p = some (.list (ps.map Prod.fst)) ∧ H q = some (.list (ps.map Prod.snd))
noncomputable def zipW (x y : V) (H : Heap) (Q : List (V × V) → (Heap → Prop) → Prop) : Prop :=
  match x with
  | .ref p => (match y with
    | .ref q => ∃ ps, zipOk p q ps H ∧ Q ps (zipOk p q ps)
    | _ => False)
  | _ => False
noncomputable def forpL (body : Loc → Heap → PS → Prop) (i : Nat) (ok : Heap → Prop) : List (V × V) → Loc → Heap → PS → Prop
  | [], m, H, Q => ok H ∧ Q .next m H
  | x :: xs, m, H, Q => ok H ∧ ∀ T, H T = none → body (m.set i (some (.ref T))) (H.upd T (.tup [x.1, x.2])) (turnW (fun m H => forpL body i ok xs m H Q) Q)
noncomputable def whileW (test : Loc → Heap → (Bool → Heap → Prop) → Prop) (body : Loc → Heap → PS → Prop) (m : Loc) (H : Heap) (Q : PS) : Prop :=
  ∃ (I : Nat → Loc → Heap → Prop) (n : Nat), I n m H ∧ ∀ n m H, I n m H → test m H fun b H =>
    if b then body m H (turnW (fun m H => ∃ k, k < n ∧ I k m H) Q) else Q .next m H
noncomputable abbrev Orac := Nat → List V → Heap → PV → Prop
noncomputable def boolW (v : V) (Q : Bool → Prop) : Prop :=
  match v with
  | .bool r => Q r
  | _ => False
noncomputable abbrev outW (t : Bool) (v : V) (H : Heap) (Q : PV) : Prop :=
  match t with
  | true => truthW v H fun r => Q (.bool r) H
  | false => Q v H
noncomputable def notW (t : Bool) (v : V) (H : Heap) (Q : PV) : Prop :=
  match t with
  | true => boolW v fun r => Q (.bool (!r)) H
  | false => truthW v H fun r => Q (.bool (!r)) H
noncomputable def andW (t : Bool) (v : V) (H : Heap) (k : Prop) (Q : PV) : Prop :=
  match t with
  | true => boolW v fun r => if r then k else Q (.bool false) H
  | false => truthW v H fun r => if r then k else Q v H
noncomputable def orW (t : Bool) (v : V) (H : Heap) (k : Prop) (Q : PV) : Prop :=
  match t with
  | true => boolW v fun r => if r then Q (.bool true) H else k
  | false => truthW v H fun r => if r then Q v H else k
section
variable (Φ : Orac)
mutual
noncomputable def wpG : E → Bool → Loc → Heap → PV → Prop
  | .var i, t, m, H, Q => varW m[i]? fun v => outW t v H Q
  | .lit v, t, _, H, Q => outW t v H Q
  | .bop o a b, t, m, H, Q => wpG a false m H fun x H => wpG b false m H fun y H => bopW o x y H fun v H => outW t v H Q
  | .neg a, t, m, H, Q => wpG a false m H fun x H => negW x H fun v H => outW t v H Q
  | .cmp o a b, _, m, H, Q => wpG a false m H fun x H => wpG b false m H fun y H => cmpW o x y H fun r => Q (.bool r) H
  | .cmp2 o1 o2 a b c, _, m, H, Q => wpG a false m H fun x H => wpG b false m H fun y H => cmpW o1 x y H fun r =>
      if r then wpG c false m H fun z H => cmpW o2 y z H fun r => Q (.bool r) H else Q (.bool false) H
  | .and a b, t, m, H, Q => wpG a t m H fun x H => andW t x H (wpG b t m H Q) Q
  | .or a b, t, m, H, Q => wpG a t m H fun x H => orW t x H (wpG b t m H Q) Q
  | .not a, t, m, H, Q => wpG a t m H fun x H => notW t x H Q
  | .call f args, t, m, H, Q => wpEs args m H fun vs H => Φ f vs H fun v H => outW t v H Q
  | .meth f self args, t, m, H, Q => wpG self false m H fun x H => isInst H (methCls f) x ∧ wpEs args m H fun vs H => Φ f (x :: vs) H fun v H => outW t v H Q
  | .new c args, t, m, H, Q => wpEs args m H fun vs H => ∀ a, H a = none → Φ c (.ref a :: vs) (H.upd a (.inst c [])) fun r H => r = .none ∧ outW t (.ref a) H Q
  | .prim p args, t, m, H, Q => wpEs args m H fun vs H => primW p vs H fun v H => outW t v H Q
  | .attr o i, t, m, H, Q => wpG o false m H fun x H => attrW x i H fun v => outW t v H Q
  | .idx o i, t, m, H, Q => wpG o false m H fun x H => wpG i false m H fun y H => idxW x y H fun v => outW t v H Q
  | .slice o lo hi, t, m, H, Q => wpG o false m H fun x H => wpO lo m H fun l H => wpO hi m H fun h H => sliceW x l h H fun v H => outW t v H Q
  | .list es, t, m, H, Q => wpEs es m H fun vs H => allocW (.list vs) H fun v H => outW t v H Q
  | .tup es, t, m, H, Q => wpEs es m H fun vs H => allocW (.tup vs) H fun v H => outW t v H Q
  | .dict0, t, _, H, Q => allocW (.dict []) H fun v H => outW t v H Q
  | .comp elt k src cond, t, m, H, Q => wpSrc src m H fun xs ok H => compW (wpG elt false) (fun m H Q => wpC cond m H Q) k ok m xs [] H fun v H => outW t v H Q
noncomputable def wpO : Option E → Loc → Heap → (Option V → Heap → Prop) → Prop
  | none, _, H, Q => Q none H
  | some e, m, H, Q => wpG e false m H fun v H => Q (some v) H
noncomputable def wpEs : List E → Loc → Heap → (List V → Heap → Prop) → Prop
  | [], _, H, Q => Q [] H
  | e :: es, m, H, Q => wpG e false m H fun v H => wpEs es m H fun vs H => Q (v :: vs) H
noncomputable def wpSrc : Src → Loc → Heap → (List V → (Heap → Prop) → Heap → Prop) → Prop
  | .rng1 n, m, H, Q => wpG n false m H fun x H => rng1W x fun xs => Q xs (fun _ => True) H
  | .rng2 a b, m, H, Q => wpG a false m H fun x H => wpG b false m H fun y H => rng2W false x y fun xs => Q xs (fun _ => True) H
  | .rng3 a b down, m, H, Q => wpG a false m H fun x H => wpG b false m H fun y H => rng2W down x y fun xs => Q xs (fun _ => True) H
  | .rngS a b c, m, H, Q => wpG a false m H fun x H => wpG b false m H fun y H => wpG c false m H fun z H => rngSW x y z fun xs => Q xs (fun _ => True) H
  | .of e, m, H, Q => wpG e false m H fun x H => ofW x H fun xs ok => Q xs ok H
  | .zip _ _, _, _, _ => False
noncomputable def wpC : Option E → Loc → Heap → (Bool → Heap → Prop) → Prop
  | none, _, H, Q => Q true H
  | some e, m, H, Q => wpG e true m H fun v H => boolW v fun r => Q r H
end
noncomputable abbrev wpE (e : E) (m : Loc) (H : Heap) (Q : PV) : Prop := wpG Φ e false m H Q
noncomputable def wpT (e : E) (m : Loc) (H : Heap) (Q : Bool → Heap → Prop) : Prop := wpG Φ e true m H fun v H => boolW v fun r => Q r H
mutual
noncomputable def wpS : S → Loc → Heap → PS → Prop
  | .assign i e, m, H, Q => wpE Φ e m H fun v H => Q .next (m.set i (some v)) H
  | .unpack is e, m, H, Q => wpE Φ e m H fun v H => unpW is v H m fun m => Q .next m H
  | .setAttr o i e, m, H, Q => wpE Φ e m H fun v H => wpE Φ o m H fun x H => setAttrW x i v H fun H => Q .next m H
  | .setIdx o i e, m, H, Q => wpE Φ e m H fun v H => wpE Φ o m H fun x H => wpE Φ i m H fun y H => setIdxW x y v H fun H => Q .next m H
  | .delIdx o i, m, H, Q => wpE Φ o m H fun x H => wpE Φ i m H fun y H => delIdxW x y H fun H => Q .next m H
  | .append o e, m, H, Q => wpE Φ o m H fun x H => isLst H x ∧ wpE Φ e m H fun v H => appendW x v H fun H => Q .next m H
  | .expr e, m, H, Q => wpE Φ e m H fun v H => dropW v (Q .next m H)
  | .ret none, m, H, Q => Q (.ret .none) m H
  | .ret (some e), m, H, Q => wpE Φ e m H fun v H => Q (.ret v) m H
  | .ite c a b, m, H, Q => wpT Φ c m H fun r H => if r then wpSs a m H Q else wpSs b m H Q
  | .whl c b, m, H, Q => whileW (wpT Φ c) (wpSs b) m H Q
  | .for1 tgt src b, m, H, Q => wpSrc Φ src m H fun xs ok H => forW (wpSs b) tgt ok xs m H Q
  | .forz i j x y b, m, H, Q => wpE Φ x m H fun v H => wpE Φ y m H fun u H => zipW v u H fun ps ok => forzL (wpSs b) i j ok ps m H Q
  | .forp i x y b, m, H, Q => wpE Φ x m H fun v H => wpE Φ y m H fun u H => zipW v u H fun ps ok => forpL (wpSs b) i ok ps m H Q
  | .brk, m, H, Q => Q .brk m H
  | .pass, m, H, Q => Q .next m H
noncomputable def wpSs : List S → Loc → Heap → PS → Prop
  | [], m, H, Q => Q .next m H
  | s :: r, m, H, Q => wpS s m H (thenW (fun m H => wpSs r m H Q) Q)
end
end
structure Fn where
  np : Nat
  nv : Nat
  body : List S
noncomputable def Fn.start (fn : Fn) (vs : List V) : Loc := vs.map some ++ List.replicate (fn.nv - fn.np) none
noncomputable def Flow.val : Flow → V
  | .ret v => v
  | _ => .none
structure Sys (D : Nat → Option Fn) where
  Φ : Orac
  call : ∀ {f fn vs H Q}, D f = some fn → vs.length = fn.np →
    wpSs Φ fn.body (fn.start vs) H (fun fl _ H' => ∃ H'', H''.le H' ∧ Q fl.val H'') → Φ f vs H Q
section
variable {Φ : Orac} {m : Loc} {H : Heap}
theorem w_var {i Q} : wpE Φ (.var i) m H Q = (varW m[i]? fun v => Q v H) := rfl
theorem w_lit {v Q} : wpE Φ (.lit v) m H Q = Q v H := rfl
theorem w_bop {o a b Q} : wpE Φ (.bop o a b) m H Q = wpE Φ a m H fun x H => wpE Φ b m H fun y H => bopW o x y H Q := rfl
theorem w_neg {a Q} : wpE Φ (.neg a) m H Q = wpE Φ a m H fun x H => negW x H Q := rfl
theorem w_cmp {o a b Q} : wpE Φ (.cmp o a b) m H Q = wpE Φ a m H fun x H => wpE Φ b m H fun y H => cmpW o x y H fun r => Q (.bool r) H := rfl
theorem w_cmp2 {o1 o2 a b c Q} : wpE Φ (.cmp2 o1 o2 a b c) m H Q = wpE Φ a m H fun x H => wpE Φ b m H fun y H => cmpW o1 x y H fun r =>
      if r then wpE Φ c m H fun z H => cmpW o2 y z H fun r => Q (.bool r) H else Q (.bool false) H := rfl
theorem w_and {a b Q} : wpE Φ (.and a b) m H Q = wpE Φ a m H fun x H => truthW x H fun r => if r then wpE Φ b m H Q else Q x H := rfl
theorem w_or {a b Q} : wpE Φ (.or a b) m H Q = wpE Φ a m H fun x H => truthW x H fun r => if r then Q x H else wpE Φ b m H Q := rfl
theorem w_not {a Q} : wpE Φ (.not a) m H Q = wpE Φ a m H fun x H => truthW x H fun r => Q (.bool (!r)) H := rfl
theorem w_call {f args Q} : wpE Φ (.call f args) m H Q = wpEs Φ args m H fun vs H => Φ f vs H Q := rfl
theorem w_meth {f self args Q} : wpE Φ (.meth f self args) m H Q = wpE Φ self m H fun x H => isInst H (methCls f) x ∧ wpEs Φ args m H fun vs H => Φ f (x :: vs) H Q := rfl
theorem w_new {c args Q} : wpE Φ (.new c args) m H Q = wpEs Φ args m H fun vs H => ∀ a, H a = none → Φ c (.ref a :: vs) (H.upd a (.inst c [])) fun r H => r = .none ∧ Q (.ref a) H := rfl
theorem w_prim {p args Q} : wpE Φ (.prim p args) m H Q = wpEs Φ args m H fun vs H => primW p vs H Q := rfl
theorem w_attr {o i Q} : wpE Φ (.attr o i) m H Q = wpE Φ o m H fun x H => attrW x i H fun v => Q v H := rfl
theorem w_idx {o i Q} : wpE Φ (.idx o i) m H Q = wpE Φ o m H fun x H => wpE Φ i m H fun y H => idxW x y H fun v => Q v H := rfl
theorem w_slice {o lo hi Q} : wpE Φ (.slice o lo hi) m H Q = wpE Φ o m H fun x H => wpO Φ lo m H fun l H => wpO Φ hi m H fun h H => sliceW x l h H Q := rfl
theorem w_list {es Q} : wpE Φ (.list es) m H Q = wpEs Φ es m H fun vs H => allocW (.list vs) H Q := rfl
theorem w_tup {es Q} : wpE Φ (.tup es) m H Q = wpEs Φ es m H fun vs H => allocW (.tup vs) H Q := rfl
theorem w_dict0 {Q} : wpE Φ .dict0 m H Q = allocW (.dict []) H Q := rfl
theorem w_comp {elt k src cond Q} : wpE Φ (.comp elt k src cond) m H Q = wpSrc Φ src m H fun xs ok H => compW (wpE Φ elt) (wpC Φ cond) k ok m xs [] H Q := rfl
theorem w_onone {Q} : wpO Φ none m H Q = Q none H := rfl
theorem w_osome {e Q} : wpO Φ (some e) m H Q = wpE Φ e m H fun v H => Q (some v) H := rfl
theorem w_enil {Q} : wpEs Φ [] m H Q = Q [] H := rfl
theorem w_econs {e es Q} : wpEs Φ (e :: es) m H Q = wpE Φ e m H fun v H => wpEs Φ es m H fun vs H => Q (v :: vs) H := rfl
theorem w_rng1 {n Q} : wpSrc Φ (.rng1 n) m H Q = wpE Φ n m H fun x H => rng1W x fun xs => Q xs (fun _ => True) H := rfl
theorem w_rng2 {a b Q} : wpSrc Φ (.rng2 a b) m H Q = wpE Φ a m H fun x H => wpE Φ b m H fun y H => rng2W false x y fun xs => Q xs (fun _ => True) H := rfl
theorem w_rng3 {a b d Q} : wpSrc Φ (.rng3 a b d) m H Q = wpE Φ a m H fun x H => wpE Φ b m H fun y H => rng2W d x y fun xs => Q xs (fun _ => True) H := rfl
theorem w_rngS {a b c Q} : wpSrc Φ (.rngS a b c) m H Q = wpE Φ a m H fun x H => wpE Φ b m H fun y H => wpE Φ c m H fun z H => rngSW x y z fun xs => Q xs (fun _ => True) H := rfl
theorem w_of {e Q} : wpSrc Φ (.of e) m H Q = wpE Φ e m H fun x H => ofW x H fun xs ok => Q xs ok H := rfl
theorem w_cnone {Q} : wpC Φ none m H Q = Q true H := rfl
theorem w_csome {e Q} : wpC Φ (some e) m H Q = wpT Φ e m H Q := rfl
theorem t_not {a Q} : wpT Φ (.not a) m H Q = wpT Φ a m H fun r H => Q (!r) H := rfl
theorem t_and {a b Q} : wpT Φ (.and a b) m H Q = wpT Φ a m H fun r H => if r then wpT Φ b m H Q else Q false H := rfl
theorem t_or {a b Q} : wpT Φ (.or a b) m H Q = wpT Φ a m H fun r H => if r then Q true H else wpT Φ b m H Q := rfl
theorem t_cmp {o a b Q} : wpT Φ (.cmp o a b) m H Q = wpE Φ a m H fun x H => wpE Φ b m H fun y H => cmpW o x y H fun r => Q r H := rfl
theorem t_cmp2 {o1 o2 a b c Q} : wpT Φ (.cmp2 o1 o2 a b c) m H Q = wpE Φ a m H fun x H => wpE Φ b m H fun y H => cmpW o1 x y H fun r =>
      if r then wpE Φ c m H fun z H => cmpW o2 y z H fun r => Q r H else Q false H := rfl
theorem t_var {i Q} : wpT Φ (.var i) m H Q = wpE Φ (.var i) m H fun v H => truthW v H fun r => Q r H := rfl
theorem t_lit {v Q} : wpT Φ (.lit v) m H Q = wpE Φ (.lit v) m H fun v H => truthW v H fun r => Q r H := rfl
theorem t_call {f as Q} : wpT Φ (.call f as) m H Q = wpE Φ (.call f as) m H fun v H => truthW v H fun r => Q r H := rfl
theorem t_meth {f o as Q} : wpT Φ (.meth f o as) m H Q = wpE Φ (.meth f o as) m H fun v H => truthW v H fun r => Q r H := rfl
theorem t_idx {o i Q} : wpT Φ (.idx o i) m H Q = wpE Φ (.idx o i) m H fun v H => truthW v H fun r => Q r H := rfl
theorem t_prim {p as Q} : wpT Φ (.prim p as) m H Q = wpE Φ (.prim p as) m H fun v H => truthW v H fun r => Q r H := rfl
theorem t_bop {o a b Q} : wpT Φ (.bop o a b) m H Q = wpE Φ (.bop o a b) m H fun v H => truthW v H fun r => Q r H := rfl
variable {Q : PS}
theorem s_assign {i e} : wpS Φ (.assign i e) m H Q = wpE Φ e m H fun v H => Q .next (m.set i (some v)) H := rfl
theorem s_unpack {is e} : wpS Φ (.unpack is e) m H Q = wpE Φ e m H fun v H => unpW is v H m fun m => Q .next m H := rfl
theorem s_setAttr {o i e} : wpS Φ (.setAttr o i e) m H Q = wpE Φ e m H fun v H => wpE Φ o m H fun x H => setAttrW x i v H fun H => Q .next m H := rfl
theorem s_setIdx {o i e} : wpS Φ (.setIdx o i e) m H Q = wpE Φ e m H fun v H => wpE Φ o m H fun x H => wpE Φ i m H fun y H => setIdxW x y v H fun H => Q .next m H := rfl
theorem s_delIdx {o i} : wpS Φ (.delIdx o i) m H Q = wpE Φ o m H fun x H => wpE Φ i m H fun y H => delIdxW x y H fun H => Q .next m H := rfl
theorem s_append {o e} : wpS Φ (.append o e) m H Q = wpE Φ o m H fun x H => isLst H x ∧ wpE Φ e m H fun v H => appendW x v H fun H => Q .next m H := rfl
theorem s_expr {e} : wpS Φ (.expr e) m H Q = wpE Φ e m H fun v H => dropW v (Q .next m H) := rfl
theorem s_ret0 : wpS Φ (.ret none) m H Q = Q (.ret .none) m H := rfl
theorem s_ret {e} : wpS Φ (.ret (some e)) m H Q = wpE Φ e m H fun v H => Q (.ret v) m H := rfl
theorem s_ite {c a b} : wpS Φ (.ite c a b) m H Q = wpT Φ c m H fun r H => if r then wpSs Φ a m H Q else wpSs Φ b m H Q := rfl
theorem s_whl {c b} : wpS Φ (.whl c b) m H Q = whileW (wpT Φ c) (wpSs Φ b) m H Q := rfl
theorem s_for {t src b} : wpS Φ (.for1 t src b) m H Q = wpSrc Φ src m H fun xs ok H => forW (wpSs Φ b) t ok xs m H Q := rfl
theorem s_forz {i j x y b} : wpS Φ (.forz i j x y b) m H Q = wpE Φ x m H fun v H => wpE Φ y m H fun u H => zipW v u H fun ps ok => forzL (wpSs Φ b) i j ok ps m H Q := rfl
theorem s_forp {i x y b} : wpS Φ (.forp i x y b) m H Q = wpE Φ x m H fun v H => wpE Φ y m H fun u H => zipW v u H fun ps ok => forpL (wpSs Φ b) i ok ps m H Q := rfl
theorem s_brk : wpS Φ .brk m H Q = Q .brk m H := rfl
theorem s_pass : wpS Φ .pass m H Q = Q .next m H := rfl
theorem s_nil : wpSs Φ [] m H Q = Q .next m H := rfl
theorem s_cons {s r} : wpSs Φ (s :: r) m H Q = wpS Φ s m H (thenW (fun m H => wpSs Φ r m H Q) Q) := rfl
end
end ML
namespace ML
variable {Φ : Orac} {m : Loc} {H : Heap}
theorem Heap.le_refl (H : Heap) : H.le H := fun _ _ h => h
theorem Heap.le_trans {H1 H2 H3 : Heap} (a : H1.le H2) (b : H2.le H3) : H1.le H3 := fun x o h => b x o (a x o h)
theorem upd_self {H : Heap} {a : Nat} {o : O} : (H.upd a o) a = some o := by simp [Heap.upd]
theorem upd_ne {H : Heap} {a p : Nat} {o : O} (h : p ≠ a) : (H.upd a o) p = H p := by simp [Heap.upd, h]
theorem upd_fresh {H : Heap} {a p : Nat} {o o' : O} (ha : H a = none) (hp : H p = some o') : (H.upd a o) p = some o' := by
  rw [upd_ne (fun e => by rw [e, ha] at hp; cases hp)]; exact hp
theorem ne_of_look {H : Heap} {a p : Nat} {o : O} (ha : H a = none) (hp : H p = some o) : p ≠ a := fun e => by rw [e, ha] at hp; cases hp
theorem Heap.le_upd {H : Heap} {a : Nat} {o : O} (ha : H a = none) : H.le (H.upd a o) := fun _ _ h => upd_fresh ha h
section
variable {Φ : Orac} {m : Loc} {H : Heap} {Q : PV}
section
variable {Q : List V → (Heap → Prop) → Heap → Prop}
end
section
variable {Q : Bool → Heap → Prop}
theorem r_cnone (k : Q true H) : wpC Φ none m H Q := by rw [w_cnone]; exact k
end
section
variable {Q : PS}
end
theorem v_mulI {x y} (h : mid x ∨ mid y) (k : Q (.int (x * y)) H) : bopW .mul (.int x) (.int y) H Q := ⟨h, k⟩
theorem v_modI {x y} (h : 0 < y) (k : Q (.int (x % y)) H) : bopW .mod (.int x) (.int y) H Q := ⟨h, k⟩
theorem v_addL {p q xs ys} (h1 : H p = some (.list xs)) (h2 : H q = some (.list ys)) (hl : xs.length + ys.length ≤ lim) (k : ∀ a, H a = none → Q (.ref a) (H.upd a (.list (xs ++ ys)))) :
    bopW .add (.ref p) (.ref q) H Q := by show addL p q H Q; unfold addL; simp only [h1, h2]; exact ⟨hl, k⟩
theorem v_alloc {o} (k : ∀ a, H a = none → Q (.ref a) (H.upd a o)) : allocW o H Q := k
theorem v_attr {p i c fs v} {Q : V → Prop} (h : H p = some (.inst c fs)) (hl : fs.lookup i = some v) (k : Q v) : attrW (.ref p) i H Q := by unfold attrW; simp only [h]; exact ⟨v, hl, k⟩
theorem v_setAttr {p i c fs fs' v} {Q : Heap → Prop} (h : H p = some (.inst c fs)) (hn : fs.length ≤ 100) (hf : setF fs i v = fs') (k : Q (H.upd p (.inst c fs'))) : setAttrW (.ref p) i v H Q := by subst hf; unfold setAttrW; simp only [h]; exact ⟨hn, k⟩
theorem v_idx {p x xs v} {k : Int} {Q : V → Prop} (h : H p = some x) (hs : x.seq? = some xs) (h0 : 0 ≤ k) (h1 : k < lim) (hv : xs[k.toNat]? = some v) (K : Q v) : idxW (.ref p) (.int k) H Q := by
  unfold idxW; simp only [h]
  cases x with
  | dict => cases hs
  | rng => cases hs
  | inst => cases hs
  | _ => exact ⟨h0, h1, xs, v, hs, hv, K⟩
theorem v_sum {p x ns} (h : H p = some x) (hs : x.lst? = some (ns.map V.int)) (k : Q (.int (sumZ ns)) H) : primW .sum [.ref p] H Q := by
  show sumW [.ref p] H Q
  unfold sumW; simp only [h]; exact ⟨ns, hs, k⟩
theorem v_slice {p x xs lo hi l h'} (h : H p = some x) (hs : x.lst? = some xs) (hl : part? lo = some l) (hh : part? hi = some h') (n1 : nonneg? l) (n2 : nonneg? h') (hz : xs.length ≤ lim)
    (k : ∀ a, H a = none → Q (.ref a) (H.upd a (.list (cut xs l h')))) : sliceW (.ref p) lo hi H Q := by
  cases x with
  | tup _ => cases hs
  | _ => unfold sliceW; simp only [hl, hh, h]; exact ⟨n1, n2, xs, hs, hz, k⟩
theorem v_append {p xs v} {Q : Heap → Prop} (h : H p = some (.list xs)) (hz : xs.length ≤ lim) (k : Q (H.upd p (.list (xs ++ [v])))) : appendW (.ref p) v H Q := by unfold appendW; simp only [h]; exact ⟨hz, k⟩
theorem v_setL {p xs v} {i : Int} {Q : Heap → Prop} (h : H p = some (.list xs)) (h0 : 0 ≤ i) (h1 : i < xs.length) (hz : i < lim) (k : Q (H.upd p (.list (xs.set i.toNat v)))) : setIdxW (.ref p) (.int i) v H Q := by unfold setIdxW; simp only [h]; exact ⟨h0, h1, hz, k⟩
theorem v_len {p x xs} (h : H p = some x) (hs : x.seq? = some xs) (k : Q (.int xs.length) H) : primW .len [.ref p] H Q := by
  show lenW [.ref p] H Q
  unfold lenW; simp only [h]
  exact ⟨xs, hs, k⟩
theorem v_isInst {p c fs} (h : H p = some (.inst c fs)) {P : Prop} (k : P) : isInst H c (.ref p) ∧ P := by refine ⟨?_, k⟩; unfold isInst; simp only [h]
theorem v_isRef {p} {Q : Bool → Prop} (k : Q true) : isW (.ref p) (.ref p) H Q := ⟨fun _ => k, fun n => absurd rfl n⟩
theorem v_rng1 {n} {Q : List V → Prop} (h : mid n) (k : Q (rngList 0 n)) : rng1W (.int n) Q := ⟨h, k⟩
theorem v_rng2 {a b} {Q : List V → Prop} (h : mid a) (h' : mid b) (k : Q (rngList a b)) : rng2W false (.int a) (.int b) Q := ⟨h, h', k⟩
theorem v_of {p o xs} {Q : List V → (Heap → Prop) → Prop} (h : H p = some o) (hs : o.lst? = some xs) (k : Q xs (fun H => H p = some o)) : ofW (.ref p) H Q := by
  unfold ofW; simp only [h]
  refine ⟨xs, ?_, k⟩
  cases o <;> first | exact hs | cases hs
theorem v_range {a b : Int} (h1 : mid a) (h2 : mid b) (k : ∀ p, H p = none → Q (.ref p) (H.upd p (.rng a b))) : primW .range [.int a, .int b] H Q := ⟨h1, h2, k⟩
theorem v_if {c : Bool} {A B : Prop} (h1 : c = true → A) (h2 : c = false → B) : if c = true then A else B := by cases c with | true => exact h1 rfl | false => exact h2 rfl
end
section
variable {Φ : Orac} {m : Loc} {H : Heap} {Q : PV} {QB : Bool → Prop} {QV : V → Prop} {QS : PS} {QL : List V → Prop} {K : Loc → Heap → Prop} {P : Prop}
theorem z_var {v : V} : varW (some (some v)) QV = QV v := rfl
theorem z_addI {x y} : bopW .add (.int x) (.int y) H Q = Q (.int (x + y)) H := rfl
theorem z_subI {x y} : bopW .sub (.int x) (.int y) H Q = Q (.int (x - y)) H := rfl
theorem z_negI {x} : negW (.int x) H Q = Q (.int (-x)) H := rfl
theorem z_lt {x y} : cmpW .lt (.int x) (.int y) H QB = QB (decide (x < y)) := rfl
theorem z_le {x y} : cmpW .le (.int x) (.int y) H QB = QB (decide (x ≤ y)) := rfl
theorem z_gt {x y} : cmpW .gt (.int x) (.int y) H QB = QB (decide (y < x)) := rfl
theorem z_ge {x y} : cmpW .ge (.int x) (.int y) H QB = QB (decide (y ≤ x)) := rfl
theorem z_eqI {x y} : cmpW .eq (.int x) (.int y) H QB = QB (decide (x = y)) := rfl
theorem z_neI {x y} : cmpW .ne (.int x) (.int y) H QB = QB (decide (x ≠ y)) := rfl
theorem z_eqB {x y} : cmpW .eq (.bool x) (.bool y) H QB = QB (decide (x = y)) := rfl
theorem z_neB {x y} : cmpW .ne (.bool x) (.bool y) H QB = QB (decide (x ≠ y)) := rfl
theorem z_eqS {x y} : cmpW .eq (.str x) (.str y) H QB = QB (decide (x = y)) := rfl
theorem z_neS {x y} : cmpW .ne (.str x) (.str y) H QB = QB (decide (x ≠ y)) := rfl
theorem z_is {x y} : cmpW .is x y H QB = isW x y H QB := rfl
theorem z_isnot {x y} : cmpW .isnot x y H QB = isW x y H fun r => QB (!r) := rfl
theorem z_isNN : isW .none .none H QB = QB true := rfl
theorem z_isBB {a b : Bool} : isW (.bool a) (.bool b) H QB = QB (a == b) := rfl
theorem z_isRN {p} : isW (.ref p) .none H QB = QB false := rfl
theorem z_isIN {p} : isW (.int p) .none H QB = QB false := rfl
theorem z_isBN {p} : isW (.bool p) .none H QB = QB false := rfl
theorem z_isSN {p} : isW (.str p) .none H QB = QB false := rfl
theorem z_isFN {p} : isW (.flt p) .none H QB = QB false := rfl
theorem z_isNB {p} : isW .none (.bool p) H QB = QB false := rfl
theorem z_isRB {p b} : isW (.ref p) (.bool b) H QB = QB false := rfl
theorem z_isIB {p b} : isW (.int p) (.bool b) H QB = QB false := rfl
theorem z_tN : truthW .none H QB = QB false := rfl
theorem z_tB {b} : truthW (.bool b) H QB = QB b := rfl
theorem z_tI {i} : truthW (.int i) H QB = QB (decide (i ≠ 0)) := rfl
theorem z_abs {i} : primW .abs [.int i] H Q = Q (.int i.natAbs) H := rfl
theorem z_min {i j} : primW .min [.int i, .int j] H Q = Q (.int (if j < i then j else i)) H := rfl
theorem z_max {i j} : primW .max [.int i, .int j] H Q = Q (.int (if i < j then j else i)) H := rfl
theorem z_tyInt {i} : primW .tyInt [.int i] H Q = Q (.bool true) H := rfl
theorem z_tyBool {i} : primW .tyBool [.bool i] H Q = Q (.bool true) H := rfl
theorem z_isBool {i} : primW .isBool [.bool i] H Q = Q (.bool true) H := rfl
theorem z_dropN : dropW .none P = P := rfl
theorem z_dropB {b} : dropW (.bool b) P = P := rfl
theorem z_dropI {b} : dropW (.int b) P = P := rfl
theorem z_then : thenW K QS .next m H = K m H := rfl
theorem z_thenB : thenW K QS .brk m H = QS .brk m H := rfl
theorem z_thenR {v} : thenW K QS (.ret v) m H = QS (.ret v) m H := rfl
theorem z_ifT {A B : Prop} : (if true = true then A else B) = A := rfl
theorem z_ifF {A B : Prop} : (if false = true then A else B) = B := rfl
theorem z_new1 {x : V} {Q : Loc → Prop} : bindNew 1 x H m Q = Q (m ++ [some x]) := rfl
theorem z_to1 {i : Nat} {x : V} {Q : Loc → Prop} : bindTo [i] x H m Q = Q (m.set i (some x)) := rfl
theorem z_mapN {α β : Type} {f : α → β} : List.map f [] = [] := rfl
theorem z_mapC {α β : Type} {f : α → β} {a : α} {l : List α} : List.map f (a :: l) = f a :: List.map f l := rfl
theorem z_appN {α : Type} {l : List α} : [] ++ l = l := rfl
theorem z_appC {α : Type} {a : α} {l r : List α} : (a :: l) ++ r = a :: (l ++ r) := rfl
theorem z_set0 {α : Type} {a b : α} {l : List α} : (a :: l).set 0 b = b :: l := rfl
theorem z_setS {α : Type} {a b : α} {l : List α} {n : Nat} : (a :: l).set (n + 1) b = a :: l.set n b := rfl
theorem z_get0 {α : Type} {a : α} {l : List α} : (a :: l)[0]? = some a := rfl
theorem z_getS {α : Type} {a : α} {l : List α} {n : Nat} : (a :: l)[n + 1]? = l[n]? := rfl
theorem z_notT : (!true) = false := rfl
theorem z_notF : (!false) = true := rfl
end
end ML
namespace ML
noncomputable def f_Node_init : Fn := ⟨4, 4, [
  .setAttr (.var 0) 0 (.var 1),
  .setAttr (.var 0) 1 (.var 2),
  .setAttr (.var 0) 2 (.var 3)]⟩
noncomputable def f_Canopy_init : Fn := ⟨2, 2, [
  .setAttr (.var 0) 3 (.var 1),
  .setAttr (.var 0) 4 (.new 0 [(.list []), (.list []), (.list [])]),
  .setAttr (.var 0) 5 (.lit (.int 0))]⟩
noncomputable def f_is_leaf : Fn := ⟨1, 1, [
  .ret (some (.cmp .eq (.prim .len [(.attr (.var 0) 2)]) (.lit (.int 0))))]⟩
noncomputable def f_slot : Fn := ⟨2, 5, [
  .assign 2 (.lit (.int 0)),
  .assign 3 (.prim .len [(.attr (.var 0) 0)]),
  .whl (.cmp .lt (.var 2) (.var 3)) [
    .assign 4 (.bop .fdiv (.bop .add (.var 2) (.var 3)) (.lit (.int 2))),
    .ite (.cmp .lt (.idx (.attr (.var 0) 0) (.var 4)) (.var 1)) [
      .assign 2 (.bop .add (.var 4) (.lit (.int 1)))] [
      .assign 3 (.var 4)]],
  .ret (some (.var 2))]⟩
noncomputable def f_lay : Fn := ⟨4, 4, [
  .setAttr (.var 0) 0 (.var 1),
  .setAttr (.var 0) 1 (.var 2),
  .setAttr (.var 0) 2 (.var 3)]⟩
noncomputable def f_row_with : Fn := ⟨3, 3, [
  .ret (some (.bop .add (.bop .add (.slice (.var 0) none (some (.var 1))) (.list [(.var 2)])) (.slice (.var 0) (some (.bop .add (.var 1) (.lit (.int 1)))) none)))]⟩
noncomputable def f_row_without : Fn := ⟨2, 2, [
  .ret (some (.bop .add (.slice (.var 0) none (some (.var 1))) (.slice (.var 0) (some (.bop .add (.var 1) (.lit (.int 1)))) none)))]⟩
noncomputable def f_adopt : Fn := ⟨3, 3, [
  .setAttr (.var 0) 4 (.var 1),
  .setAttr (.var 0) 5 (.var 2)]⟩
noncomputable def f_height : Fn := ⟨1, 3, [
  .assign 1 (.attr (.var 0) 4),
  .assign 2 (.lit (.int 0)),
  .whl (.not (.meth 2 (.var 1) [])) [
    .assign 1 (.idx (.attr (.var 1) 2) (.lit (.int 0))),
    .assign 2 (.bop .add (.var 2) (.lit (.int 1)))],
  .ret (some (.var 2))]⟩
noncomputable def f_split_child : Fn := ⟨3, 8, [
  .assign 3 (.attr (.var 0) 3),
  .assign 4 (.idx (.attr (.var 1) 2) (.var 2)),
  .assign 5 (.new 0 [(.slice (.attr (.var 4) 0) (some (.var 3)) none), (.slice (.attr (.var 4) 1) (some (.var 3)) none), (.slice (.attr (.var 4) 2) (some (.var 3)) none)]),
  .assign 6 (.idx (.attr (.var 4) 0) (.bop .sub (.var 3) (.lit (.int 1)))),
  .assign 7 (.idx (.attr (.var 4) 1) (.bop .sub (.var 3) (.lit (.int 1)))),
  .expr (.meth 4 (.var 4) [(.slice (.attr (.var 4) 0) none (some (.bop .sub (.var 3) (.lit (.int 1))))), (.slice (.attr (.var 4) 1) none (some (.bop .sub (.var 3) (.lit (.int 1))))), (.slice (.attr (.var 4) 2) none (some (.var 3)))]),
  .expr (.meth 4 (.var 1) [(.bop .add (.bop .add (.slice (.attr (.var 1) 0) none (some (.var 2))) (.list [(.var 6)])) (.slice (.attr (.var 1) 0) (some (.var 2)) none)), (.bop .add (.bop .add (.slice (.attr (.var 1) 1) none (some (.var 2))) (.list [(.var 7)])) (.slice (.attr (.var 1) 1) (some (.var 2)) none)), (.bop .add (.bop .add (.slice (.attr (.var 1) 2) none (some (.bop .add (.var 2) (.lit (.int 1))))) (.list [(.var 5)])) (.slice (.attr (.var 1) 2) (some (.bop .add (.var 2) (.lit (.int 1)))) none))])]⟩
noncomputable def f_merge_children : Fn := ⟨3, 5, [
  .assign 3 (.idx (.attr (.var 1) 2) (.var 2)),
  .assign 4 (.idx (.attr (.var 1) 2) (.bop .add (.var 2) (.lit (.int 1)))),
  .expr (.meth 4 (.var 3) [(.bop .add (.bop .add (.attr (.var 3) 0) (.list [(.idx (.attr (.var 1) 0) (.var 2))])) (.attr (.var 4) 0)), (.bop .add (.bop .add (.attr (.var 3) 1) (.list [(.idx (.attr (.var 1) 1) (.var 2))])) (.attr (.var 4) 1)), (.bop .add (.attr (.var 3) 2) (.attr (.var 4) 2))]),
  .expr (.meth 4 (.var 1) [(.call 6 [(.attr (.var 1) 0), (.var 2)]), (.call 6 [(.attr (.var 1) 1), (.var 2)]), (.call 6 [(.attr (.var 1) 2), (.bop .add (.var 2) (.lit (.int 1)))])])]⟩
noncomputable def f_borrow_from_left : Fn := ⟨3, 7, [
  .assign 3 (.idx (.attr (.var 1) 2) (.bop .sub (.var 2) (.lit (.int 1)))),
  .assign 4 (.idx (.attr (.var 1) 2) (.var 2)),
  .assign 5 (.bop .sub (.prim .len [(.attr (.var 3) 0)]) (.lit (.int 1))),
  .assign 6 (.slice (.attr (.var 3) 2) (some (.bop .add (.var 5) (.lit (.int 1)))) none),
  .expr (.meth 4 (.var 4) [(.bop .add (.list [(.idx (.attr (.var 1) 0) (.bop .sub (.var 2) (.lit (.int 1))))]) (.attr (.var 4) 0)), (.bop .add (.list [(.idx (.attr (.var 1) 1) (.bop .sub (.var 2) (.lit (.int 1))))]) (.attr (.var 4) 1)), (.bop .add (.var 6) (.attr (.var 4) 2))]),
  .expr (.meth 4 (.var 1) [(.call 5 [(.attr (.var 1) 0), (.bop .sub (.var 2) (.lit (.int 1))), (.idx (.attr (.var 3) 0) (.var 5))]), (.call 5 [(.attr (.var 1) 1), (.bop .sub (.var 2) (.lit (.int 1))), (.idx (.attr (.var 3) 1) (.var 5))]), (.slice (.attr (.var 1) 2) none none)]),
  .expr (.meth 4 (.var 3) [(.slice (.attr (.var 3) 0) none (some (.var 5))), (.slice (.attr (.var 3) 1) none (some (.var 5))), (.slice (.attr (.var 3) 2) none (some (.bop .add (.var 5) (.lit (.int 1)))))])]⟩
noncomputable def f_borrow_from_right : Fn := ⟨3, 6, [
  .assign 3 (.idx (.attr (.var 1) 2) (.var 2)),
  .assign 4 (.idx (.attr (.var 1) 2) (.bop .add (.var 2) (.lit (.int 1)))),
  .assign 5 (.slice (.attr (.var 4) 2) none (some (.lit (.int 1)))),
  .expr (.meth 4 (.var 3) [(.bop .add (.attr (.var 3) 0) (.list [(.idx (.attr (.var 1) 0) (.var 2))])), (.bop .add (.attr (.var 3) 1) (.list [(.idx (.attr (.var 1) 1) (.var 2))])), (.bop .add (.attr (.var 3) 2) (.var 5))]),
  .expr (.meth 4 (.var 1) [(.call 5 [(.attr (.var 1) 0), (.var 2), (.idx (.attr (.var 4) 0) (.lit (.int 0)))]), (.call 5 [(.attr (.var 1) 1), (.var 2), (.idx (.attr (.var 4) 1) (.lit (.int 0)))]), (.slice (.attr (.var 1) 2) none none)]),
  .expr (.meth 4 (.var 4) [(.slice (.attr (.var 4) 0) (some (.lit (.int 1))) none), (.slice (.attr (.var 4) 1) (some (.lit (.int 1))) none), (.slice (.attr (.var 4) 2) (some (.lit (.int 1))) none)])]⟩
noncomputable def f_fill_child : Fn := ⟨3, 4, [
  .assign 3 (.attr (.var 0) 3),
  .ite (.or (.cmp .ge (.prim .len [(.attr (.idx (.attr (.var 1) 2) (.var 2)) 0)]) (.var 3)) (.cmp .lt (.prim .len [(.attr (.var 1) 2)]) (.lit (.int 2)))) [
    .ret (some (.var 2))] [],
  .ite (.and (.cmp .gt (.var 2) (.lit (.int 0))) (.cmp .ge (.prim .len [(.attr (.idx (.attr (.var 1) 2) (.bop .sub (.var 2) (.lit (.int 1)))) 0)]) (.var 3))) [
    .expr (.meth 13 (.var 0) [(.var 1), (.var 2)]),
    .ret (some (.var 2))] [],
  .ite (.and (.cmp .lt (.var 2) (.bop .sub (.prim .len [(.attr (.var 1) 2)]) (.lit (.int 1)))) (.cmp .ge (.prim .len [(.attr (.idx (.attr (.var 1) 2) (.bop .add (.var 2) (.lit (.int 1)))) 0)]) (.var 3))) [
    .expr (.meth 14 (.var 0) [(.var 1), (.var 2)]),
    .ret (some (.var 2))] [],
  .ite (.cmp .gt (.var 2) (.lit (.int 0))) [
    .expr (.meth 12 (.var 0) [(.var 1), (.bop .sub (.var 2) (.lit (.int 1)))]),
    .ret (some (.bop .sub (.var 2) (.lit (.int 1))))] [],
  .expr (.meth 12 (.var 0) [(.var 1), (.var 2)]),
  .ret (some (.var 2))]⟩
noncomputable def f_flat_below : Fn := ⟨2, 8, [
  .assign 2 (.list []),
  .assign 3 (.list [(.var 1)]),
  .whl (.cmp .gt (.prim .len [(.var 3)]) (.lit (.int 0))) [
    .assign 4 (.idx (.var 3) (.bop .sub (.prim .len [(.var 3)]) (.lit (.int 1)))),
    .delIdx (.var 3) (.bop .sub (.prim .len [(.var 3)]) (.lit (.int 1))),
    .append (.var 2) (.prim .len [(.attr (.var 4) 0)]),
    .for1 [5] (.of (.attr (.var 4) 0)) [
      .append (.var 2) (.var 5)],
    .for1 [6] (.of (.attr (.var 4) 1)) [
      .append (.var 2) (.var 6)],
    .append (.var 2) (.prim .len [(.attr (.var 4) 2)]),
    .for1 [7] (.rng3 (.bop .sub (.prim .len [(.attr (.var 4) 2)]) (.lit (.int 1))) (.neg (.lit (.int 1))) true) [
      .append (.var 3) (.idx (.attr (.var 4) 2) (.var 7))]],
  .ret (some (.var 2))]⟩
noncomputable def f_flat : Fn := ⟨1, 1, [
  .ret (some (.bop .add (.list [(.attr (.var 0) 3)]) (.meth 30 (.var 0) [(.attr (.var 0) 4)])))]⟩
end ML
namespace ML
open PySem (Expr Stmt Str NameKind Scope Comprehension)
structure Tab where
  fns : List (Str × Nat)
  cls : List (Str × Nat)
  mts : List (Str × Nat)
  ats : List (Str × Nat)
  sts : List (Str × Nat)
  lv : List (Nat × Nat)
structure Ctx where
  kinds : List (Str × NameKind)
  ν : List (Str × Nat)
  next : Nat
  tab : Tab
  top : Nat
noncomputable def Ctx.fits (c : Ctx) (f : Nat) : Bool := match c.tab.lv.lookup f with
  | some l => l < c.top
  | none => false
noncomputable def Ctx.isGlob (c : Ctx) (x : Str) : Bool := c.kinds.lookup x == some .globalImplicit
noncomputable def isVarKind : NameKind → Bool
  | .local | .cell | .free => true
  | _ => false
noncomputable def innerNames (ν : List (Str × Nat)) : List (Str × NameKind) → Nat → List (Str × Nat)
  | [], _ => []
  | (x, .local) :: r, n => if x == ".0" then innerNames ν r n else (x, n) :: innerNames ν r (n + 1)
  | (x, .cell) :: r, n => (x, n) :: innerNames ν r (n + 1)
  | (x, .free) :: r, n => (match ν.lookup x with | some i => (x, i) :: innerNames ν r n | none => innerNames ν r n)
  | _ :: r, n => innerNames ν r n
noncomputable def innerCount : List (Str × NameKind) → Nat
  | [] => 0
  | (x, .local) :: r => if x == ".0" then innerCount r else innerCount r + 1
  | (_, .cell) :: r => innerCount r + 1
  | _ :: r => innerCount r
noncomputable def Ctx.inner (c : Ctx) (sc : Scope) : Ctx := { c with kinds := sc.names, ν := innerNames c.ν sc.names c.next, next := c.next + innerCount sc.names }
noncomputable def Ctx.inner1 (c : Ctx) (sc : Scope) (x : Str) : Ctx := { c with kinds := sc.names, ν := (x, c.next) :: c.ν, next := c.next + 1 }
noncomputable def compName (c : Ctx) (sc : Scope) (x : Str) (p : Str × NameKind) : Bool := match p.2 with
  | .cell => false
  | .free => (c.ν.lookup p.1).isSome && (c.kinds.lookup p.1 == some .cell || c.kinds.lookup p.1 == some .free)
  | .local => sc.names.lookup p.1 == some .local && (p.1 == x || c.ν.lookup p.1 == none)
  | _ => true
noncomputable def compOk (c : Ctx) (sc : Scope) (x : Str) : Bool := sc.kind == .function && sc.names.lookup x == some .local && sc.names.all (compName c sc x)
noncomputable def trOp : PySem.Operator → Option Bop
  | .Add => some .add | .Sub => some .sub | .Mult => some .mul | .FloorDiv => some .fdiv | .Mod => some .mod
  | _ => none
noncomputable def trCmp : PySem.CmpOp → Cop
  | .Eq => .eq | .NotEq => .ne | .Lt => .lt | .LtE => .le | .Gt => .gt | .GtE => .ge | .Is => .is | .IsNot => .isnot | .In => .isin | .NotIn => .notin
noncomputable def trPrim (x : Str) (n : Nat) : Option Prim :=
  if x == "len" && n == 1 then some .len
  else if x == "min" && n == 2 then some .min
  else if x == "max" && n == 2 then some .max
  else if x == "sum" && n == 1 then some .sum
  else if x == "range" && n == 2 then some .range
  else none
noncomputable def trTy (x : Str) : Option Prim :=
  if x == "int" then some .tyInt else
  none
noncomputable def trIsi (x : Str) : Option Prim :=
  none
noncomputable def trConst (c : Ctx) : PySem.Const → Option E
  | .none => some (.lit .none)
  | .bool b => some (.lit (.bool b))
  | .int i => some (.lit (.int i))
  | .float b => some (.lit (.flt b))
  | .str s => (c.tab.sts.lookup s).map fun k => .lit (.str k)
  | _ => none
noncomputable def nameOf (e : Expr) : Option Str := if h : e.ctorIdx = 23 then Expr.Name.elim (motive_1 := fun _ => Option Str) e h (fun x _ => some x) else none
structure CallX where
  f : Expr
  args : List Expr
  kws : List PySem.Keyword
  pos : PySem.Pos
noncomputable def callOf (e : Expr) : Option CallX := if h : e.ctorIdx = 16 then Expr.Call.elim (motive_1 := fun _ => Option CallX) e h (fun f a k p => some ⟨f, a, k, p⟩) else none
structure AttrX where
  o : Expr
  x : Str
  pos : PySem.Pos
noncomputable def attrOf (e : Expr) : Option AttrX := if h : e.ctorIdx = 20 then Expr.Attribute.elim (motive_1 := fun _ => Option AttrX) e h (fun o x p => some ⟨o, x, p⟩) else none
structure SubX where
  o : Expr
  i : Expr
noncomputable def subOf (e : Expr) : Option SubX := if h : e.ctorIdx = 21 then Expr.Subscript.elim (motive_1 := fun _ => Option SubX) e h (fun o i _ => some ⟨o, i⟩) else none
noncomputable def tupZ (e : Expr) : Option (List Expr) := if h : e.ctorIdx = 25 then Expr.Tuple.elim (motive_1 := fun _ => Option (List Expr)) e h (fun es _ _ => some es) else none
structure SliceX where
  lo : Option Expr
  hi : Option Expr
  st : Option Expr
noncomputable def sliceOf (e : Expr) : Option SliceX := if h : e.ctorIdx = 26 then Expr.Slice.elim (motive_1 := fun _ => Option SliceX) e h (fun l u t _ => some ⟨l, u, t⟩) else none
noncomputable def isNil {α : Type} : List α → Bool
  | [] => true
  | _ => false
noncomputable def bareCall (e : Expr) : Bool := match callOf e with
  | some c => isNil c.args && isNil c.kws && (nameOf c.f).isSome
  | none => false
noncomputable def isSlice (e : Expr) : Bool := e.ctorIdx == 26
noncomputable def isStar (e : Expr) : Bool := e.ctorIdx == 22
noncomputable def isComp (e : Expr) : Bool := e.ctorIdx == 8 || e.ctorIdx == 9 || e.ctorIdx == 10
noncomputable def asNot : Bool → E → E
  | true, e => .not e
  | false, e => e
noncomputable def gName (c : Ctx) (e : Expr) : Option Str := match nameOf e with
  | some y => if c.isGlob y then some y else none
  | none => none
noncomputable def typeOfArg (c : Ctx) (t : Expr) : List Expr → Option Expr
  | [a] => if gName c t == some "type" then some a else none
  | _ => none
noncomputable def typeCall (c : Ctx) (e : Expr) : Option Expr := match callOf e with
  | some x => if isNil x.kws then typeOfArg c x.f x.args else none
  | none => none
noncomputable def isOp : PySem.CmpOp → Option Bool
  | .Is => some false
  | .IsNot => some true
  | _ => none
noncomputable def typeTest (c : Ctx) (l : Expr) (op : PySem.CmpOp) (r : Expr) : Option (Expr × Prim × Bool) :=
  match typeCall c l with
  | some a => (match isOp op with
    | some neg => (match gName c r with
      | some y => (trTy y).map fun q => (a, q, neg)
      | none => none)
    | none => none)
  | none => none
noncomputable def mapO {α β : Type} (f : α → Option β) : List α → Option (List β)
  | [] => some []
  | a :: r => match f a with
    | some b => (match mapO f r with | some bs => some (b :: bs) | none => none)
    | none => none
noncomputable def trEs (f : Expr → Option E) (es : List Expr) : Option (List E) := if es.any isStar || !decide (es.length ≤ 20) then none else mapO f es
noncomputable def trO (f : Expr → Option E) : Option Expr → Option (Option E)
  | none => some none
  | some e => (f e).map some
noncomputable def trBool (f : Expr → Option E) (op : PySem.BoolOp) : List Expr → Option E
  | [] => none
  | [e] => f e
  | e :: r => match op with
    | .And => do some (.and (← f e) (← trBool f op r))
    | .Or => do some (.or (← f e) (← trBool f op r))
noncomputable def trIsiC (c : Ctx) (tr : Expr → Option E) : List Expr → Option E
  | [a, b] => (match gName c b with
    | some y => if isStar a then none else (match trIsi y with
      | some q => do some (.prim q [← tr a])
      | none => none
      )
    | none => none)
  | _ => none
noncomputable def isNanC : PySem.Const → Bool
  | .str x => x == "nan"
  | _ => false
noncomputable def isNanE (e : Expr) : Bool := if h : e.ctorIdx = 19 then Expr.Constant.elim (motive_1 := fun _ => Bool) e h (fun k _ _ => isNanC k) else false
noncomputable def trNan : List Expr → Option E
  | [e] => if isNanE e then some (.prim .nan []) else none
  | _ => none
noncomputable def trPrimC (c : Ctx) (tr : Expr → Option E) (f : Str) (args : List Expr) : Option E :=
    match trPrim f args.length with
    | some p => do some (.prim p (← trEs tr args))
    | none => none
noncomputable def trCall (c : Ctx) (tr : Expr → Option E) (f : Str) (args : List Expr) : Option E :=
  if !c.isGlob f then none else
  match c.tab.fns.lookup f with
  | some i => if c.fits i then do some (.call i (← trEs tr args)) else none
  | none => match c.tab.cls.lookup f with
    | some i => if c.fits i then do some (.new i (← trEs tr args)) else none
    | none =>
      if f == "isinstance" then none else
      trPrimC c tr f args
noncomputable def isOneC : PySem.Const → Bool
  | .int i => i == 1
  | _ => false
noncomputable def isOneE (e : Expr) : Bool := if h : e.ctorIdx = 19 then Expr.Constant.elim (motive_1 := fun _ => Bool) e h (fun k _ _ => isOneC k) else false
noncomputable def isSub : PySem.UnaryOp → Bool
  | .USub => true
  | _ => false
noncomputable def isOne (e : Expr) : Bool := if h : e.ctorIdx = 3 then Expr.UnaryOp.elim (motive_1 := fun _ => Bool) e h (fun op x _ => isSub op && isOneE x) else false
noncomputable def trRange (tr : Expr → Option E) : List Expr → Option Src
  | [n] => if isStar n then none else do some (.rng1 (← tr n))
  | [a, b] => if isStar a || isStar b then none else do some (.rng2 (← tr a) (← tr b))
  | _ => none
noncomputable def rangeArgs (c : Ctx) (e : Expr) : Option (List Expr) := match callOf e with
  | some x => if isNil x.kws && gName c x.f == some "range" then some x.args else none
  | none => none
noncomputable def isSetE (e : Expr) : Bool := e.ctorIdx == 7
noncomputable def trSrc (c : Ctx) (tr : Expr → Option E) (e : Expr) : Option Src := match rangeArgs c e with
  | some as => trRange tr as
  | none => if isSetE e then none else do some (.of (← tr e))
noncomputable def trCond (tr : Expr → Option E) : List Expr → Option (Option E)
  | [] => some none
  | [t] => do some (some (← tr t))
  | _ => none
noncomputable def trVar (c : Ctx) (x : Str) : Option E := match c.kinds.lookup x with
  | some k => if isVarKind k && !(x == "__debug__") && !(x == "__classdict__") then (c.ν.lookup x).map .var else none
  | none => none
noncomputable def trBin (f : Expr → Option E) (l : Expr) (op : PySem.Operator) (r : Expr) : Option E := do some (.bop (← trOp op) (← f l) (← f r))
noncomputable def trUn (f : Expr → Option E) (op : PySem.UnaryOp) (x : Expr) : Option E := match op with
  | .Not => do some (.not (← f x))
  | .USub => do some (.neg (← f x))
  | _ => none
noncomputable def trTy1 (f : Expr → Option E) (q : Prim) (neg : Bool) (a : Expr) : Option E := if isStar a then none else do some (asNot neg (.prim q [← f a]))
noncomputable def trCmp1 (c : Ctx) (f : Expr → Option E) (l : Expr) (op : PySem.CmpOp) (r : Expr) : Option E :=
  match typeTest c l op r with
  | some (a, q, neg) => trTy1 f q neg a
  | none => do some (.cmp (trCmp op) (← f l) (← f r))
noncomputable def trCmps (c : Ctx) (f : Expr → Option E) (l : Expr) : List PySem.CmpOp → List Expr → Option E
  | [op], [r] => trCmp1 c f l op r
  | [o1, o2], [r, d] => do some (.cmp2 (trCmp o1) (trCmp o2) (← f l) (← f r) (← f d))
  | _, _ => none
noncomputable def trMeth (c : Ctx) (f : Expr → Option E) (o : Expr) (name : Str) (args : List Expr) (fits : Bool) : Option E :=
  if bareCall o || !fits then none else
  match c.tab.mts.lookup name with
  | some i => if c.fits i then do some (.meth i (← f o) (← trEs f args)) else none
  | none => none
noncomputable def trCalls (c : Ctx) (f : Expr → Option E) (cp : PySem.Pos) (args : List Expr) (g : Expr) : Option E := match nameOf g with
  | some x => trCall c f x args
  | none => match attrOf g with
    | some a => trMeth c f a.o a.x args (a.pos.endLine == cp.line)
    | none => none
noncomputable def trAttr (c : Ctx) (f : Expr → Option E) (o : Expr) (a : Str) : Option E := if bareCall o then none else
  match c.tab.ats.lookup a with
  | some i => do some (.attr (← f o) i)
  | none => none
noncomputable def trSub (f : Expr → Option E) (o i : Expr) : Option E := match sliceOf i with
  | some x => if x.st.isSome then none else do some (.slice (← f o) (← trO f x.lo) (← trO f x.hi))
  | none => do some (.idx (← f o) (← f i))
noncomputable def trComp1 (c : Ctx) (f : Ctx → Expr → Option E) (elt : Expr) (sc : Scope) (iter : Expr) (ifs : List Expr) (t : Expr) : Option E := match nameOf t with
  | some x => if compOk c sc x then do
      some (.comp (← f (c.inner1 sc x) elt) 1 (← trSrc c (f c) iter) (← trCond (f (c.inner1 sc x)) ifs))
    else none
  | none => none
noncomputable def trComps (c : Ctx) (f : Ctx → Expr → Option E) (elt : Expr) (sc : Scope) : List Comprehension → Option E
  | [g] => if g.is_async == 0 then trComp1 c f elt sc g.iter g.ifs g.target else none
  | _ => none
noncomputable def trE1 (c : Ctx) (f : Ctx → Expr → Option E) : Expr → Option E
  | .Constant k _ _ => trConst c k
  | .Name x _ => trVar c x
  | .BinOp l op r _ => trBin (f c) l op r
  | .UnaryOp op x _ => trUn (f c) op x
  | .BoolOp op vs _ => trBool (f c) op vs
  | .Compare l ops rs _ => trCmps c (f c) l ops rs
  | .Call g args [] cp => trCalls c (f c) cp args g
  | .Attribute o a _ => trAttr c (f c) o a
  | .Subscript o i _ => trSub (f c) o i
  | .List es _ => do some (.list (← trEs (f c) es))
  | .Tuple es _ _ => do some (.tup (← trEs (f c) es))
  | .ListComp elt gs sc _ => trComps c f elt sc gs
  | _ => none
noncomputable def trE : Nat → Ctx → Expr → Option E
  | 0, _, _ => none
  | n + 1, c, e => trE1 c (trE n) e
noncomputable def trName (c : Ctx) (x : Str) : Option Nat :=
  match c.kinds.lookup x with
  | some .local | some .cell => c.ν.lookup x
  | _ => none
noncomputable def deep : Nat := 40
noncomputable def trSetIdx (c : Ctx) (v t : Expr) : Option S := match subOf t with
  | some x => if isComp v || isSlice x.i then none else do some (.setIdx (← trE deep c x.o) (← trE deep c x.i) (← trE deep c v))
  | none => none
noncomputable def trSetAttr (c : Ctx) (v : Expr) (x : AttrX) : Option S := if isComp v then none else match c.tab.ats.lookup x.x with
  | some i => do some (.setAttr (← trE deep c x.o) i (← trE deep c v))
  | none => none
noncomputable def trAssign (c : Ctx) (v t : Expr) : Option S := match nameOf t with
  | some x => do some (.assign (← trName c x) (← trE deep c v))
  | none => match attrOf t with
    | some x => trSetAttr c v x
    | none => trSetIdx c v t
noncomputable def trExprS (c : Ctx) (v : Expr) : Option S := if isComp v then none else do some (.expr (← trE deep c v))
noncomputable def one? {α : Type} : List α → Option α
  | [e] => some e
  | _ => none
structure AppX where
  o : Expr
  e : Expr
  fit : Bool
noncomputable def appendOf (v : Expr) : Option AppX := match callOf v with
  | some x => if isNil x.kws then (match attrOf x.f with
    | some a => if a.x == "append" then (one? x.args).map fun e => ⟨a.o, e, a.pos.endLine == x.pos.line⟩ else none
    | none => none) else none
  | none => none
noncomputable def trAppend (c : Ctx) (o e : Expr) (fit : Bool) : Option S := if bareCall o || isStar e || !fit then none else do some (.append (← trE deep c o) (← trE deep c e))
noncomputable def trDel (c : Ctx) (ts : List Expr) : Option S := match one? ts with
  | some t => (match subOf t with
    | some x => if isSlice x.i then none else do some (.delIdx (← trE deep c x.o) (← trE deep c x.i))
    | none => none)
  | none => none
noncomputable def trRet (c : Ctx) : Option Expr → Option S
  | none => some (.ret none)
  | some e => do some (.ret (some (← trE deep c e)))
noncomputable def forZ2 (c : Ctx) (x y : Str) (b : Option (List S)) : List Expr → Option S
  | [e1, e2] => if isStar e1 || isStar e2 then none else do some (.forz (← trName c x) (← trName c y) (← trE deep c e1) (← trE deep c e2) (← b))
  | _ => none
noncomputable def forZ1 (c : Ctx) (iter : Expr) (b : Option (List S)) : List Expr → Option S
  | [t1, t2] => (match nameOf t1, nameOf t2, callOf iter with
    | some x, some y, some z => if isNil z.kws && gName c z.f == some "zip" then forZ2 c x y b z.args else none
    | _, _, _ => none)
  | _ => none
noncomputable def trForZ (c : Ctx) (iter : Expr) (b : Option (List S)) (t : Expr) : Option S := match tupZ t with
  | some es => forZ1 c iter b es
  | none => none
noncomputable def zipArgs (c : Ctx) (e : Expr) : Option (List Expr) := match callOf e with
  | some x => if isNil x.kws && gName c x.f == some "zip" then some x.args else none
  | none => none
noncomputable def forP2 (c : Ctx) (x : Str) (b : Option (List S)) : List Expr → Option S
  | [e1, e2] => if isStar e1 || isStar e2 then none else do some (.forp (← trName c x) (← trE deep c e1) (← trE deep c e2) (← b))
  | _ => none
noncomputable def trForN (c : Ctx) (iter : Expr) (b : Option (List S)) (x : Str) : Option S :=
  match zipArgs c iter with
  | some as => forP2 c x b as
  | none => do some (.for1 [← trName c x] (← trSrc c (trE deep c) iter) (← b))
noncomputable def trForS (c : Ctx) (iter : Expr) (b : Option (List S)) (t : Expr) : Option S := match nameOf t with
  | some x => trForN c iter b x
  | none => trForZ c iter b t
noncomputable def trS1 (c : Ctx) (f : Stmt → Option S) : Stmt → Option S
  | .Assign [t] v _ => trAssign c v t
  | .Delete ts _ => trDel c ts
  | .Expr v _ => (match appendOf v with
    | some x => trAppend c x.o x.e x.fit
    | none => trExprS c v)
  | .Return e _ => trRet c e
  | .If t a b _ => do some (.ite (← trE deep c t) (← mapO f a) (← mapO f b))
  | .While t b [] _ => do some (.whl (← trE deep c t) (← mapO f b))
  | .For t iter b [] _ => trForS c iter (mapO f b) t
  | .Break _ => some .brk
  | .Pass _ => some .pass
  | _ => none
noncomputable def trS : Nat → Ctx → Stmt → Option S
  | 0, _, _ => none
  | n + 1, c, s => trS1 c (trS n c) s
noncomputable def ownNames (names : List (Str × NameKind)) : List Str := (names.filter fun p => p.2 == .local || p.2 == .cell).map (·.1)
noncomputable def nodupB : List Str → Bool
  | [] => true
  | x :: r => !r.contains x && nodupB r
noncomputable def fCtx (tab : Tab) (top : Nat) (sc : Scope) : Ctx := ⟨sc.names, (ownNames sc.names).zipIdx, (ownNames sc.names).length, tab, top⟩
noncomputable def fShape (params : List Str) (sc : Scope) : Bool :=
  nodupB (sc.names.map (·.1)) && (ownNames sc.names).take params.length == params && sc.kind == .function && !sc.isGenerator && !sc.isCoroutine && sc.names.all fun p => !(p.2 == .free)
noncomputable def trF (tab : Tab) (top : Nat) (params : List Str) (sc : Scope) (body : List Stmt) : Option Fn :=
  if fShape params sc then
    match mapO (trS deep (fCtx tab top sc)) body with
    | some b => some ⟨params.length, (ownNames sc.names).length, b⟩
    | none => none
  else none
theorem nameOf_ok {e : Expr} {y : Str} (h : nameOf e = some y) : ∃ p, e = .Name y p := by
  unfold nameOf at h
  by_cases q : e.ctorIdx = 23
  · revert h
    refine Expr.Name.elim e q fun x p h => ?_
    cases h
    exact ⟨p, rfl⟩
  · rw [dif_neg q] at h; cases h
theorem callOf_ok {e : Expr} {x : CallX} (h : callOf e = some x) : e = .Call x.f x.args x.kws x.pos := by
  unfold callOf at h
  by_cases q : e.ctorIdx = 16
  · revert h
    refine Expr.Call.elim e q fun f a k p h => ?_
    cases h
    rfl
  · rw [dif_neg q] at h; cases h
theorem attrOf_ok {e : Expr} {x : AttrX} (h : attrOf e = some x) : e = .Attribute x.o x.x x.pos := by
  unfold attrOf at h
  by_cases q : e.ctorIdx = 20
  · revert h
    refine Expr.Attribute.elim e q fun o x p h => ?_
    cases h
    rfl
  · rw [dif_neg q] at h; cases h
theorem subOf_ok {e : Expr} {x : SubX} (h : subOf e = some x) : ∃ p, e = .Subscript x.o x.i p := by
  unfold subOf at h
  by_cases q : e.ctorIdx = 21
  · revert h
    refine Expr.Subscript.elim e q fun o i p h => ?_
    cases h
    exact ⟨p, rfl⟩
  · rw [dif_neg q] at h; cases h
theorem sliceOf_ok {e : Expr} {x : SliceX} (h : sliceOf e = some x) : ∃ p, e = .Slice x.lo x.hi x.st p := by
  unfold sliceOf at h
  by_cases q : e.ctorIdx = 26
  · revert h
    refine Expr.Slice.elim e q fun l u t p h => ?_
    cases h
    exact ⟨p, rfl⟩
  · rw [dif_neg q] at h; cases h
theorem isNil_ok {α : Type} {l : List α} (h : isNil l = true) : l = [] := by
  cases l with
  | nil => rfl
  | cons _ _ => cases h
theorem one_ok {α : Type} {l : List α} {e : α} (h : one? l = some e) : l = [e] := by
  match l, h with
  | [x], h => cases h; rfl
  | [], h => cases h
  | _ :: _ :: _, h => cases h
end ML
namespace ML
open PySem (Str)
noncomputable def coreFns : List (Str × Nat) := [("row_with", 5), ("row_without", 6), ("model_put", 32), ("model_delete", 33), ("run_on_canopy", 34), ("run_on_model", 35), ("law_invariants_hold_after_every_deed", 36), ("law_canopy_agrees_with_the_model", 37),
  ("law_get_agrees_with_the_model", 38), ("law_remove_tells_the_truth", 39), ("law_remove_undoes_put", 40), ("law_the_order_of_putting_does_not_matter", 41), ("law_range_is_a_filter", 42), ("law_rank_and_select_are_inverse", 43),
  ("law_next_key_is_the_least_greater", 44), ("squares_by_canopy", 45), ("height_after_counting_up", 46)]
noncomputable def coreMts : List (Str × Nat) := [("is_leaf", 2), ("slot", 3), ("lay", 4), ("adopt", 7), ("lookup", 8), ("height", 9), ("split_child", 10), ("put", 11), ("merge_children", 12), ("borrow_from_left", 13), ("borrow_from_right", 14), ("fill_child", 15),
  ("least_below", 16), ("greatest_below", 17), ("delete", 18), ("pairs_below", 19), ("pairs", 20), ("shape_ok", 21), ("keys_ok", 22), ("leaf_level", 23), ("check", 24), ("range_below", 25), ("count_below", 26), ("rank_of", 27), ("select_key", 28),
  ("next_key", 29), ("flat_below", 30), ("flat", 31)]
noncomputable def coreCls : List (Str × Nat) := [("Node", 0), ("Canopy", 1)]
noncomputable def coreAts : List (Str × Nat) := [("key_row", 0), ("value_row", 1), ("children", 2), ("t", 3), ("root", 4), ("size", 5)]
noncomputable def coreStrs : List (Str × Nat) := [("put", 0), ("del", 1)]
noncomputable def coreLv : List (Nat × Nat) := [(0, 0), (1, 1), (2, 0), (3, 0), (4, 0), (5, 0), (6, 0), (7, 0), (8, 1), (9, 1), (10, 1), (11, 2), (12, 1), (13, 1), (14, 1), (15, 2), (16, 1), (17, 1), (18, 3), (19, 1), (20, 2), (21, 0), (22, 0), (23, 1), (24, 2), (25, 1), (26, 0), (27, 1),
  (28, 2), (29, 1), (30, 0), (31, 1), (32, 0), (33, 0), (34, 4), (35, 1), (36, 5), (37, 6), (38, 6), (39, 6), (40, 6), (41, 5), (42, 6), (43, 6), (44, 6), (45, 5), (46, 5)]
noncomputable def mkTab (helpers : List (Str × Nat × Nat)) : Tab :=
  ⟨coreFns ++ helpers.map fun h => (h.1, h.2.1), coreCls, coreMts, coreAts, coreStrs, coreLv ++ helpers.map fun h => (h.2.1, h.2.2)
  ⟩
end ML
namespace ML
open PySem PySem.W PySem.Calls PyProof.Rows
noncomputable abbrev PHeap := PySem.Heap
structure Cfg where
  prog : Program
  w : World
  K : Frag
  h₀ : PHeap
  p : Program
  loose : List Str
  mg : Str → Option Value
  mb : Str → Option Value
  os : OsState
  tab : Tab
  fnA : List (Nat × Addr)
  clsA : List (Nat × Addr)
noncomputable abbrev Cfg.M (C : Cfg) : Model := model C.prog C.w
noncomputable def strIs (k : Nat) (x : Str) : Prop := coreStrs.lookup x = some k
noncomputable def attrIs (i : Nat) (x : Str) : Prop := coreAts.lookup x = some i
noncomputable def RepV : Value → V → Prop
  | .none, .none => True
  | .bool a, .bool b => a = b
  | .int i _, .int j => i = j
  | .float a _, .flt b => a = b
  | .str x _, .str k => strIs k x
  | .ref a, .ref b => a = b
  | _, _ => False
noncomputable def RepE (e : DictEntry) (f : Nat × V) : Prop := ∃ x t, e.key = .str x t ∧ attrIs f.1 x ∧ RepV e.val f.2
noncomputable def RepK (e : Int × Value) (f : Int × V) : Prop := e.1 = f.1 ∧ RepV e.2 f.2
noncomputable def RepO (C : Cfg) (h : PHeap) (a : Addr) : O → Prop
  | .list xs => ∃ vs n, IsL h a vs.toArray n ∧ All2 RepV vs xs ∧ vs.length ≤ 2 * lim
  | .ro xs => ∃ vs, h.IsList a vs.toArray ∧ All2 RepV vs xs ∧ vs.length ≤ 1000
  | .tup xs => ∃ vs, IsTup h a vs.toArray ∧ All2 RepV vs xs ∧ vs.length ≤ 2 * lim
  | .inst c fs => ∃ Ca d es n, C.clsA.lookup c = some Ca ∧ h.get? a = some (instObj Ca d) ∧ h.get? d = some { cls := .type "dict", data := .dict es n } ∧ All2 RepE es.toList fs
  | .dict _ => False
  | .rng x y => (∃ t u v, IsRange h a x y 1 t u v) ∧ mid x ∧ mid y
noncomputable def Hid (H : Heap) (h : PHeap) (b : Addr) : Prop := ∃ a c fs o, H a = some (.inst c fs) ∧ h.get? a = some o ∧ o.dict = some b
noncomputable def Fp (H : Heap) (h : PHeap) (b : Addr) : Prop := (∃ xs, H b = some (.list xs)) ∨ (∃ es, H b = some (.dict es)) ∨ Hid H h b
structure StH (C : Cfg) (H : Heap) (s : Shared) : Prop where
  base : ∀ b o, C.h₀.get? b = some o → s.heap.get? b = some o
  rep : ∀ a o, H a = some o → RepO C s.heap a o
  own : ∀ b, Fp H s.heap b → C.h₀.get? b = none
  hid : ∀ b, Hid H s.heap b → H b = none
  inj : ∀ a a' c fs c' fs' o o' d, H a = some (.inst c fs) → H a' = some (.inst c' fs') → s.heap.get? a = some o → s.heap.get? a' = some o' → o.dict = some d → o'.dict = some d → a = a'
  gens : s.gens = #[]
  os : s.os = C.os
structure Ext (H : Heap) (h : PHeap) (H' : Heap) (h' : PHeap) : Prop where
  keep : ∀ b o, h.get? b = some o → ¬ Fp H h b → h'.get? b = some o
  alive : ∀ b, h'.get? b = none → h.get? b = none
  fresh : ∀ b, Fp H' h' b → Fp H h b ∨ h.get? b = none
  dom : ∀ b o, H' b = some o → (∃ o', H b = some o') ∨ h.get? b = none
variable {C : Cfg} {H H' H'' : Heap} {s s' : Shared} {h h' h'' : PHeap}
theorem Ext.refl : Ext H h H h := ⟨fun _ _ e _ => e, fun _ x => x, fun _ x => .inl x, fun _ o e => .inl ⟨o, e⟩⟩
theorem Ext.trans (x : Ext H h H' h') (y : Ext H' h' H'' h'') : Ext H h H'' h'' where
  keep b o e n := y.keep b o (x.keep b o e n) fun f => (x.fresh b f).elim n fun z => by rw [z] at e; cases e
  alive b e := x.alive b (y.alive b e)
  fresh b f := (y.fresh b f).elim (x.fresh b) fun z => .inr (x.alive b z)
  dom b o e := (y.dom b o e).elim (fun ⟨o', e'⟩ => x.dom b o' e') fun z => .inr (x.alive b z)
theorem RepO.look {a : Addr} {o : O} (r : RepO C h a o) : ∃ ob, h.get? a = some ob := by
  cases o with
  | list xs => obtain ⟨vs, n, e, _⟩ := r; exact ⟨_, e⟩
  | ro xs => obtain ⟨vs, ⟨ob, e, _⟩, _⟩ := r; exact ⟨_, e⟩
  | tup xs => obtain ⟨vs, ⟨ob, e, _⟩, _⟩ := r; exact ⟨_, e⟩
  | inst c fs => obtain ⟨Ca, d, es, n, _, e, _⟩ := r; exact ⟨_, e⟩
  | rng x y => obtain ⟨⟨t, u, v, e⟩, _⟩ := r; exact ⟨_, e⟩
  | dict es => exact r.elim
theorem RepO.keeps {a : Addr} {o : O} (r : RepO C h a o) (k : ∀ x, h.get? a = some x → h'.get? a = some x)
    (kd : ∀ c fs, o = .inst c fs → ∀ ob b x, h.get? a = some ob → ob.dict = some b → h.get? b = some x → h'.get? b = some x) : RepO C h' a o := by
  cases o with
  | list xs => obtain ⟨vs, n, e, q⟩ := r; exact ⟨vs, n, k _ e, q⟩
  | ro xs => obtain ⟨vs, ⟨ob, e, q⟩, z⟩ := r; exact ⟨vs, ⟨ob, k _ e, q⟩, z⟩
  | tup xs => obtain ⟨vs, ⟨ob, e, q⟩, z⟩ := r; exact ⟨vs, ⟨ob, k _ e, q⟩, z⟩
  | inst c fs => obtain ⟨Ca, d, es, n, hc, e, ed, z⟩ := r; exact ⟨Ca, d, es, n, hc, k _ e, kd _ _ rfl _ _ _ e rfl ed, z⟩
  | rng x y => obtain ⟨⟨t, u, v, e⟩, q⟩ := r; exact ⟨⟨t, u, v, k _ e⟩, q⟩
  | dict es => exact r.elim
theorem StH.fresh_none (S : StH C H s) : H s.heap.objs.size = none := by
  cases q : H s.heap.objs.size with
  | none => rfl
  | some o => obtain ⟨ob, e⟩ := (S.rep _ _ q).look; exact absurd (Heap.lt_size e) (Nat.lt_irrefl _)
theorem look_size (h : PHeap) : h.get? h.objs.size = none := by
  cases q : h.get? h.objs.size with
  | none => rfl
  | some o => exact absurd (Heap.lt_size q) (Nat.lt_irrefl _)
theorem StH.base_none (S : StH C H s) {b : Addr} (e : s.heap.get? b = none) : C.h₀.get? b = none := by
  cases q : C.h₀.get? b with
  | none => rfl
  | some o => rw [S.base _ _ q] at e; cases e
theorem StH.none_of (S : StH C H s) {b : Addr} (e : s.heap.get? b = none) : H b = none := by
  cases q : H b with
  | none => rfl
  | some o => obtain ⟨ob, x⟩ := (S.rep _ _ q).look; rw [x] at e; cases e
theorem Hid.look (S : StH C H s) {b : Addr} (x : Hid H s.heap b) : ∃ o, s.heap.get? b = some o := by
  obtain ⟨a, c, fs, o, e1, e2, e3⟩ := x
  obtain ⟨Ca, d, es, n, _, e, ed, _⟩ := S.rep _ _ e1
  rw [e] at e2; cases e2; cases e3; exact ⟨_, ed⟩
theorem StH.quiet (S : StH C H s) (P : Addr → Prop) (hk : ∀ b o, s.heap.get? b = some o → ¬ P b → s'.heap.get? b = some o)
    (hP : ∀ b, P b → H b = none ∧ C.h₀.get? b = none ∧ ¬ Hid H s.heap b) (hg : s'.gens = s.gens) (hos : s'.os = s.os) : StH C H s' := by
  have same : ∀ a c fs o, H a = some (.inst c fs) → s'.heap.get? a = some o → s.heap.get? a = some o := fun a c fs o e e' => by
    obtain ⟨ob, x⟩ := (S.rep _ _ e).look
    have := hk _ _ x fun p => by rw [(hP _ p).1] at e; cases e
    rw [this] at e'; cases e'; exact x
  have hid' : ∀ b, Hid H s'.heap b → Hid H s.heap b := fun b ⟨a, c, fs, o, e1, e2, e3⟩ => ⟨a, c, fs, o, e1, same _ _ _ _ e1 e2, e3⟩
  refine ⟨fun b o e => hk _ _ (S.base _ _ e) fun p => (by rw [(hP _ p).2.1] at e; cases e), fun a o e => (S.rep a o e).keeps (fun x hx => hk _ _ hx fun p => (by rw [(hP _ p).1] at e; cases e)) fun c fs ho ob b x e1 e2 hx => hk _ _ hx fun p => ?_,
    fun b f => ?_, fun b x => S.hid _ (hid' _ x), ?_, by rw [hg]; exact S.gens, hos.trans S.os⟩
  · subst ho; exact (hP _ p).2.2 ⟨a, c, fs, ob, e, e1, e2⟩
  · rcases f with f | f | f
    · exact S.own _ (.inl f)
    · exact S.own _ (.inr (.inl f))
    · exact S.own _ (.inr (.inr (hid' _ f)))
  · intro a a' c fs c' fs' o o' d e1 e2 e3 e4
    exact S.inj a a' c fs c' fs' o o' d e1 e2 (same _ _ _ _ e1 e3) (same _ _ _ _ e2 e4)
theorem Hid.same (k : ∀ a c fs, H a = some (.inst c fs) → ∀ o, h.get? a = some o → h'.get? a = some o) (S : ∀ a o, H a = some o → ∃ ob, h.get? a = some ob) {b : Addr} (x : Hid H h' b) : Hid H h b := by
  obtain ⟨a, c, fs, o, e1, e2, e3⟩ := x
  obtain ⟨ob, z⟩ := S _ _ e1
  have := k _ _ _ e1 _ z
  rw [this] at e2; cases e2
  exact ⟨a, c, fs, _, e1, z, e3⟩
theorem StH.quietExt (S : StH C H s) (P : Addr → Prop) (hk : ∀ b o, s.heap.get? b = some o → ¬ P b → s'.heap.get? b = some o)
    (hP : ∀ b, P b → s.heap.get? b = none) : Ext H s.heap H s'.heap := by
  have hk' : ∀ b o, s.heap.get? b = some o → s'.heap.get? b = some o := fun b o e => hk b o e fun p => by rw [hP b p] at e; cases e
  have hid' : ∀ b, Hid H s'.heap b → Hid H s.heap b := fun b x => x.same (fun a c fs e o z => hk' _ _ z) fun a o e => (S.rep _ _ e).look
  refine ⟨fun b o e _ => hk' b o e, fun b e => ?_, fun b f => .inl ?_, fun b o e => .inl ⟨o, e⟩⟩
  · cases q : s.heap.get? b with
    | none => rfl
    | some o => rw [hk' _ _ q] at e; cases e
  · rcases f with f | f | f
    · exact .inl f
    · exact .inr (.inl f)
    · exact .inr (.inr (hid' _ f))
theorem StH.grow (S : StH C H s) (hk : ∀ b o, s.heap.get? b = some o → s'.heap.get? b = some o) (hg : s'.gens = s.gens) (hos : s'.os = s.os) : StH C H s' ∧ Ext H s.heap H s'.heap :=
  ⟨S.quiet (fun _ => False) (fun b o e _ => hk b o e) (fun _ f => f.elim) hg hos, S.quietExt (fun _ => False) (fun b o e _ => hk b o e) fun _ f => f.elim⟩
theorem push_keeps (h : PHeap) (o : Obj) : ∀ b x, h.get? b = some x → (h.push o).get? b = some x := fun _ _ e => Heap.get?_push_of_some o e
theorem StH.push (S : StH C H s) (o : Obj) (tk : Nat) : StH C H { s with heap := s.heap.push o, toks := tk } ∧ Ext H s.heap H (s.heap.push o) :=
  S.grow (s' := { s with heap := s.heap.push o, toks := tk }) (push_keeps _ _) rfl rfl
theorem StH.toks (S : StH C H s) (tk : Nat) : StH C H { s with toks := tk } := (S.grow (s' := { s with toks := tk }) (fun _ _ e => e) rfl rfl).1
theorem StH.forget (S : StH C H s) (l : H'.le H) : StH C H' s :=
  have hd : ∀ b, Hid H' s.heap b → Hid H s.heap b := fun b ⟨a, c, fs, o, e1, e2, e3⟩ => ⟨a, c, fs, o, l _ _ e1, e2, e3⟩
  ⟨S.base, fun a o e => S.rep a o (l _ _ e), fun b f => S.own b (f.imp (fun ⟨x, e⟩ => ⟨x, l _ _ e⟩) fun f => f.imp (fun ⟨x, e⟩ => ⟨x, l _ _ e⟩) (hd b)),
    fun b x => (by
      cases q : H' b with
      | none => rfl
      | some o => have := S.hid b (hd b x); rw [l _ _ q] at this; cases this),
    fun a a' c fs c' fs' o o' d e1 e2 => S.inj a a' c fs c' fs' o o' d (l _ _ e1) (l _ _ e2), S.gens, S.os⟩
theorem Ext.forget (x : Ext H h H' h') (l : H''.le H') : Ext H h H'' h' :=
  ⟨x.keep, x.alive, fun b f => x.fresh b (f.imp (fun ⟨y, e⟩ => ⟨y, l _ _ e⟩) fun f => f.imp (fun ⟨y, e⟩ => ⟨y, l _ _ e⟩) fun ⟨a, c, fs, o, e1, e2, e3⟩ => ⟨a, c, fs, o, l _ _ e1, e2, e3⟩), fun b o e => x.dom b o (l _ _ e)⟩
theorem StH.alloc (S : StH C H s) {ob : Obj} {o : O} {tk : Nat} (hf : ob.isFreed = false) (hn : ∀ c fs, o ≠ .inst c fs) (hr : RepO C (s.heap.push ob) s.heap.objs.size o) :
    StH C (H.upd s.heap.objs.size o) { s with heap := s.heap.push ob, toks := tk } ∧ Ext H s.heap (H.upd s.heap.objs.size o) (s.heap.push ob) := by
  have hz := S.fresh_none
  have hl := look_size s.heap
  obtain ⟨S', E'⟩ := S.push ob tk
  have cases' : ∀ b x, (H.upd s.heap.objs.size o) b = some x → (b = s.heap.objs.size ∧ x = o) ∨ H b = some x := fun b x e => by
    by_cases q : b = s.heap.objs.size
    · subst q; simp [Heap.upd] at e; exact .inl ⟨rfl, e.symm⟩
    · simp [Heap.upd, q] at e; exact .inr e
  have hid' : ∀ b, Hid (H.upd s.heap.objs.size o) (s.heap.push ob) b → Hid H (s.heap.push ob) b := fun b ⟨a, c, fs, x, e1, e2, e3⟩ =>
    (cases' _ _ e1).elim (fun ⟨_, q⟩ => absurd q.symm (hn c fs)) fun e1 => ⟨a, c, fs, x, e1, e2, e3⟩
  have hidO : ∀ b, Hid H (s.heap.push ob) b → Hid H s.heap b := fun b x => x.same (fun _ _ _ _ o e => push_keeps _ _ _ _ e) fun a o e => (S.rep _ _ e).look
  refine ⟨⟨S'.base, fun a x e => ?_, fun b f => ?_, fun b x => ?_, ?_, S'.gens, S'.os⟩, ⟨E'.keep, E'.alive, fun b f => ?_, fun b x e => ?_⟩⟩
  · rcases cases' _ _ e with ⟨rfl, rfl⟩ | e
    · exact hr
    · exact S'.rep _ _ e
  · rcases f with ⟨x, f⟩ | ⟨x, f⟩ | f
    · rcases cases' _ _ f with ⟨rfl, _⟩ | f
      · exact S.base_none hl
      · exact S'.own _ (.inl ⟨x, f⟩)
    · rcases cases' _ _ f with ⟨rfl, _⟩ | f
      · exact S.base_none hl
      · exact S'.own _ (.inr (.inl ⟨x, f⟩))
    · exact S'.own _ (.inr (.inr (hid' _ f)))
  · have y := hid' _ x
    have z := hidO _ y
    obtain ⟨ob', lk⟩ := z.look S
    have ne : b ≠ s.heap.objs.size := fun q => by rw [q, hl] at lk; cases lk
    simp only [Heap.upd, ne, if_false]; exact S'.hid _ y
  · intro a a' c fs c' fs' x x' d e1 e2
    rcases cases' _ _ e1 with ⟨_, q⟩ | e1
    · exact absurd q.symm (hn c fs)
    · rcases cases' _ _ e2 with ⟨_, q⟩ | e2
      · exact absurd q.symm (hn c' fs')
      · exact S'.inj a a' c fs c' fs' x x' d e1 e2
  · rcases f with ⟨x, f⟩ | ⟨x, f⟩ | f
    · rcases cases' _ _ f with ⟨rfl, _⟩ | f
      · exact .inr hl
      · exact .inl (.inl ⟨x, f⟩)
    · rcases cases' _ _ f with ⟨rfl, _⟩ | f
      · exact .inr hl
      · exact .inl (.inr (.inl ⟨x, f⟩))
    · exact .inl (.inr (.inr (hidO _ (hid' _ f))))
  · rcases cases' _ _ e with ⟨rfl, _⟩ | e
    · exact .inr hl
    · exact .inl ⟨x, e⟩
theorem StH.over (S : StH C H s) {l : Addr} {o o' : O} {g : PHeap} {tk : Nat} (ho : H l = some o) (hk : (∃ xs, o = .list xs) ∨ ∃ es, o = .dict es) (hk' : (∃ xs, o' = .list xs) ∨ ∃ es, o' = .dict es)
    (same : ∀ b, b ≠ l → g.get? b = s.heap.get? b) (hl : ∃ ob, g.get? l = some ob) (hr : RepO C g l o') :
    StH C (H.upd l o') { s with heap := g, toks := tk } ∧ Ext H s.heap (H.upd l o') g := by
  have hfp : Fp H s.heap l := by rcases hk with ⟨xs, rfl⟩ | ⟨es, rfl⟩; exact .inl ⟨xs, ho⟩; exact .inr (.inl ⟨es, ho⟩)
  have hne : ∀ c fs, o' ≠ .inst c fs := by rcases hk' with ⟨xs, rfl⟩ | ⟨es, rfl⟩ <;> intro c fs q <;> cases q
  have hnl : ∀ a c fs, H a = some (.inst c fs) → a ≠ l := fun a c fs e q => by subst q; rw [ho] at e; cases e; rcases hk with ⟨xs, q⟩ | ⟨es, q⟩ <;> cases q
  have hnh : ¬ Hid H s.heap l := fun x => by rw [S.hid _ x] at ho; cases ho
  have keep : ∀ b x, s.heap.get? b = some x → b ≠ l → g.get? b = some x := fun b x e n => (same b n).trans e
  have cases' : ∀ b x, (H.upd l o') b = some x → (b = l ∧ x = o') ∨ (b ≠ l ∧ H b = some x) := fun b x e => by
    by_cases q : b = l
    · subst q; simp [Heap.upd] at e; exact .inl ⟨rfl, e.symm⟩
    · simp [Heap.upd, q] at e; exact .inr ⟨q, e⟩
  have hid1 : ∀ b, Hid (H.upd l o') g b → Hid H s.heap b := fun b ⟨a, c, fs, x, e1, e2, e3⟩ =>
    (cases' _ _ e1).elim (fun ⟨_, q⟩ => absurd q.symm (hne c fs)) fun ⟨n, e1⟩ => ⟨a, c, fs, x, e1, by rw [same _ n] at e2; exact e2, e3⟩
  have fp1 : ∀ b, Fp (H.upd l o') g b → Fp H s.heap b := fun b q => by
    rcases q with ⟨x, q⟩ | ⟨x, q⟩ | q
    · rcases cases' _ _ q with ⟨rfl, _⟩ | ⟨_, q⟩
      · exact hfp
      · exact .inl ⟨x, q⟩
    · rcases cases' _ _ q with ⟨rfl, _⟩ | ⟨_, q⟩
      · exact hfp
      · exact .inr (.inl ⟨x, q⟩)
    · exact .inr (.inr (hid1 _ q))
  refine ⟨⟨fun b x e => keep _ _ (S.base _ _ e) fun q => ?_, fun a x e => ?_, fun b q => S.own _ (fp1 _ q), fun b x => ?_, ?_, S.gens, S.os⟩, ⟨fun b x e n => keep _ _ e fun q => n (q ▸ hfp), fun b e => ?_, fun b q => .inl (fp1 _ q), fun b x e => ?_⟩⟩
  · rw [q, S.own _ hfp] at e; cases e
  · rcases cases' _ _ e with ⟨rfl, rfl⟩ | ⟨n, e⟩
    · exact hr
    · refine (S.rep _ _ e).keeps (fun y hy => keep _ _ hy n) fun c fs q ob' b y e1 e2 hy => keep _ _ hy fun z => ?_
      subst q; exact hnh ⟨a, c, fs, ob', e, e1, z ▸ e2⟩
  · have y := hid1 _ x
    have ne : b ≠ l := fun q => hnh (q ▸ y)
    simp only [Heap.upd, ne, if_false]; exact S.hid _ y
  · intro a a' c fs c' fs' x x' d e1 e2 e3 e4
    rcases cases' _ _ e1 with ⟨_, q⟩ | ⟨n1, e1⟩
    · exact absurd q.symm (hne c fs)
    · rcases cases' _ _ e2 with ⟨_, q⟩ | ⟨n2, e2⟩
      · exact absurd q.symm (hne c' fs')
      · have e3 : g.get? a = some x := e3
        have e4 : g.get? a' = some x' := e4
        rw [same _ n1] at e3
        rw [same _ n2] at e4
        exact S.inj a a' c fs c' fs' x x' d e1 e2 e3 e4
  · by_cases q : b = l
    · obtain ⟨ob, z⟩ := hl; subst q; rw [z] at e; cases e
    · rw [same _ q] at e; exact e
  · rcases cases' _ _ e with ⟨rfl, _⟩ | ⟨_, e⟩
    · exact .inl ⟨_, ho⟩
    · exact .inl ⟨x, e⟩
theorem StH.write (S : StH C H s) {l : Addr} {f : Obj → Obj} {o o' : O} {ob : Obj} {tk : Nat} (ho : H l = some o) (hob : s.heap.get? l = some ob) (hk : (∃ xs, o = .list xs) ∨ ∃ es, o = .dict es) (hk' : (∃ xs, o' = .list xs) ∨ ∃ es, o' = .dict es)
    (hf : (f ob).isFreed = false) (hr : RepO C (s.heap.update l f) l o') :
    StH C (H.upd l o') { s with heap := s.heap.update l f, toks := tk } ∧ Ext H s.heap (H.upd l o') (s.heap.update l f) :=
  S.over ho hk hk' (fun b n => Heap.get?_update_other _ f (Ne.symm n)) ⟨_, Heap.get?_update_self f hob hf⟩ hr
end ML
namespace ML
open PySem PySem.W PySem.Calls PyProof.Rows
variable {C : Cfg} {H H' H'' : Heap} {s s' : Shared} {h h' h'' : PHeap}
theorem StH.make (S : StH C H s) {c : Nat} {Ca : Addr} {tk : Nat} (hc : C.clsA.lookup c = some Ca) :
    StH C (H.upd (s.heap.objs.size + 1) (.inst c [])) { s with heap := (s.heap.push emptyDict).push (instObj Ca s.heap.objs.size), toks := tk } ∧
    Ext H s.heap (H.upd (s.heap.objs.size + 1) (.inst c [])) ((s.heap.push emptyDict).push (instObj Ca s.heap.objs.size)) := by
  have h2 : ∀ b x, s.heap.get? b = some x → ((s.heap.push emptyDict).push (instObj Ca s.heap.objs.size)).get? b = some x := fun b x e => push_keeps _ _ _ _ (push_keeps _ _ _ _ e)
  obtain ⟨S', E'⟩ := S.grow (s' := { s with heap := (s.heap.push emptyDict).push (instObj Ca s.heap.objs.size), toks := tk }) h2 rfl rfl
  have hl0 := look_size s.heap
  have hl1 : s.heap.get? (s.heap.objs.size + 1) = none := by
    cases q : s.heap.get? (s.heap.objs.size + 1) with
    | none => rfl
    | some o => exact absurd (Heap.lt_size q) (Nat.not_lt.mpr (Nat.le_succ _))
  have ed : ((s.heap.push emptyDict).push (instObj Ca s.heap.objs.size)).get? s.heap.objs.size = some emptyDict := push_keeps _ _ _ _ (Heap.get?_push_size _ rfl)
  have ei : ((s.heap.push emptyDict).push (instObj Ca s.heap.objs.size)).get? (s.heap.objs.size + 1) = some (instObj Ca s.heap.objs.size) := by
    have := Heap.get?_push_size (s.heap.push emptyDict) (o := instObj Ca s.heap.objs.size) rfl
    rwa [Heap.size_push] at this
  have cases' : ∀ b x, (H.upd (s.heap.objs.size + 1) (.inst c [])) b = some x → (b = s.heap.objs.size + 1 ∧ x = .inst c []) ∨ H b = some x := fun b x e => by
    by_cases q : b = s.heap.objs.size + 1
    · subst q; simp [Heap.upd] at e; exact .inl ⟨rfl, e.symm⟩
    · simp [Heap.upd, q] at e; exact .inr e
  have hid' : ∀ b, Hid (H.upd (s.heap.objs.size + 1) (.inst c [])) ((s.heap.push emptyDict).push (instObj Ca s.heap.objs.size)) b → b = s.heap.objs.size ∨ Hid H s.heap b := fun b ⟨a, c', fs, x, e1, e2, e3⟩ => by
    rcases cases' _ _ e1 with ⟨rfl, _⟩ | e1
    · rw [ei] at e2; cases e2; cases e3; exact .inl rfl
    · refine .inr (Hid.same (h := s.heap) (fun _ _ _ _ o e => h2 _ _ e) (fun a o e => (S.rep _ _ e).look) ⟨a, c', fs, x, e1, e2, e3⟩)
  have noneD : H s.heap.objs.size = none := S.none_of hl0
  refine ⟨⟨S'.base, fun a x e => ?_, fun b f => ?_, fun b x => ?_, ?_, S'.gens, S'.os⟩, ⟨E'.keep, E'.alive, fun b f => ?_, fun b x e => ?_⟩⟩
  · rcases cases' _ _ e with ⟨rfl, rfl⟩ | e
    · exact ⟨Ca, _, #[], 0, hc, ei, ed, .nil⟩
    · exact S'.rep _ _ e
  · rcases f with ⟨x, f⟩ | ⟨x, f⟩ | f
    · rcases cases' _ _ f with ⟨_, q⟩ | f
      · cases q
      · exact S.own _ (.inl ⟨x, f⟩)
    · rcases cases' _ _ f with ⟨_, q⟩ | f
      · cases q
      · exact S.own _ (.inr (.inl ⟨x, f⟩))
    · rcases hid' _ f with rfl | f
      · exact S.base_none hl0
      · exact S.own _ (.inr (.inr f))
  · rcases hid' _ x with rfl | y
    · simp only [Heap.upd, show s.heap.objs.size ≠ s.heap.objs.size + 1 from Nat.ne_of_lt (Nat.lt_succ_self _), if_false]; exact noneD
    · obtain ⟨ob', lk⟩ := y.look S
      have ne : b ≠ s.heap.objs.size + 1 := fun q => by rw [q, hl1] at lk; cases lk
      simp only [Heap.upd, ne, if_false]; exact S.hid _ y
  · intro a a' c1 fs c2 fs' x x' d e1 e2 e3 e4 e5 e6
    have e3 : ((s.heap.push emptyDict).push (instObj Ca s.heap.objs.size)).get? a = some x := e3
    have e4 : ((s.heap.push emptyDict).push (instObj Ca s.heap.objs.size)).get? a' = some x' := e4
    have old : ∀ a c fs x d, H a = some (.inst c fs) → ((s.heap.push emptyDict).push (instObj Ca s.heap.objs.size)).get? a = some x → x.dict = some d → d ≠ s.heap.objs.size := fun a c fs x d e1 e2 e3 q => by
      have := Hid.same (h := s.heap) (fun _ _ _ _ o e => h2 _ _ e) (fun a o e => (S.rep _ _ e).look) (⟨a, c, fs, x, e1, e2, e3⟩ : Hid H _ d)
      obtain ⟨ob', lk⟩ := this.look S
      rw [q, hl0] at lk; cases lk
    rcases cases' _ _ e1 with ⟨rfl, _⟩ | e1
    · rcases cases' _ _ e2 with ⟨rfl, _⟩ | e2
      · rfl
      · rw [ei] at e3; cases e3; cases e5
        exact absurd rfl (old _ _ _ _ _ e2 e4 e6)
    · rcases cases' _ _ e2 with ⟨rfl, _⟩ | e2
      · rw [ei] at e4; cases e4; cases e6
        exact absurd rfl (old _ _ _ _ _ e1 e3 e5)
      · exact S'.inj a a' c1 fs c2 fs' x x' d e1 e2 e3 e4 e5 e6
  · rcases f with ⟨x, f⟩ | ⟨x, f⟩ | f
    · rcases cases' _ _ f with ⟨_, q⟩ | f
      · cases q
      · exact .inl (.inl ⟨x, f⟩)
    · rcases cases' _ _ f with ⟨_, q⟩ | f
      · cases q
      · exact .inl (.inr (.inl ⟨x, f⟩))
    · rcases hid' _ f with rfl | f
      · exact .inr hl0
      · exact .inl (.inr (.inr f))
  · rcases cases' _ _ e with ⟨rfl, _⟩ | e
    · exact .inr hl1
    · exact .inl ⟨x, e⟩
theorem StH.field (S : StH C H s) {a d : Addr} {c : Nat} {fs fs' : List (Nat × V)} {ob : Obj} {f : Obj → Obj} {tk : Nat} (ho : H a = some (.inst c fs)) (hob : s.heap.get? a = some ob) (hd : ob.dict = some d) (hf : ∀ o, s.heap.get? d = some o → (f o).isFreed = false)
    (hr : RepO C (s.heap.update d f) a (.inst c fs')) :
    StH C (H.upd a (.inst c fs')) { s with heap := s.heap.update d f, toks := tk } ∧ Ext H s.heap (H.upd a (.inst c fs')) (s.heap.update d f) := by
  have hh : Hid H s.heap d := ⟨a, c, fs, ob, ho, hob, hd⟩
  have hfp : Fp H s.heap d := .inr (.inr hh)
  have hnd : H d = none := S.hid _ hh
  have keep : ∀ b x, s.heap.get? b = some x → b ≠ d → (s.heap.update d f).get? b = some x := fun b x e n => (Heap.get?_update_other _ f (Ne.symm n)).trans e
  have cases' : ∀ b x, (H.upd a (.inst c fs')) b = some x → (b = a ∧ x = .inst c fs') ∨ (b ≠ a ∧ H b = some x) := fun b x e => by
    by_cases q : b = a
    · subst q; simp [Heap.upd] at e; exact .inl ⟨rfl, e.symm⟩
    · simp [Heap.upd, q] at e; exact .inr ⟨q, e⟩
  have nd : ∀ b x, H b = some x → b ≠ d := fun b x e q => by rw [q, hnd] at e; cases e
  have nda : a ≠ d := nd _ _ ho
  have hid1 : ∀ b, Hid (H.upd a (.inst c fs')) (s.heap.update d f) b → Hid H s.heap b := fun b ⟨a', c', fs1, x, e1, e2, e3⟩ => by
    rcases cases' _ _ e1 with ⟨rfl, _⟩ | ⟨n, e1⟩
    · rw [Heap.get?_update_other _ f (Ne.symm nda)] at e2; exact ⟨a', c, fs, x, ho, e2, e3⟩
    · rw [Heap.get?_update_other _ f (Ne.symm (nd _ _ e1))] at e2; exact ⟨a', c', fs1, x, e1, e2, e3⟩
  have fp1 : ∀ b, Fp (H.upd a (.inst c fs')) (s.heap.update d f) b → Fp H s.heap b := fun b q => by
    rcases q with ⟨x, q⟩ | ⟨x, q⟩ | q
    · rcases cases' _ _ q with ⟨_, q⟩ | ⟨_, q⟩
      · cases q
      · exact .inl ⟨x, q⟩
    · rcases cases' _ _ q with ⟨_, q⟩ | ⟨_, q⟩
      · cases q
      · exact .inr (.inl ⟨x, q⟩)
    · exact .inr (.inr (hid1 _ q))
  refine ⟨⟨fun b x e => keep _ _ (S.base _ _ e) fun q => ?_, fun b x e => ?_, fun b q => S.own _ (fp1 _ q), fun b x => ?_, ?_, S.gens, S.os⟩, ⟨fun b x e n => keep _ _ e fun q => n (q ▸ hfp), fun b e => ?_, fun b q => .inl (fp1 _ q), fun b x e => ?_⟩⟩
  · rw [q, S.own _ hfp] at e; cases e
  · rcases cases' _ _ e with ⟨rfl, rfl⟩ | ⟨n, e⟩
    · exact hr
    · refine (S.rep _ _ e).keeps (fun y hy => keep _ _ hy (nd _ _ e)) fun c1 fs1 q ob' b' y e1 e2 hy => keep _ _ hy fun z => ?_
      subst q z
      exact n (S.inj b a c1 fs1 c fs ob' ob b' e ho e1 hob e2 hd)
  · have y := hid1 _ x
    have ne : b ≠ a := fun q => by rw [q] at y; have := S.hid _ y; rw [ho] at this; cases this
    simp only [Heap.upd, ne, if_false]; exact S.hid _ y
  · intro a1 a2 c1 fs1 c2 fs2 x x' d' e1 e2 e3 e4 e5 e6
    have e3 : (s.heap.update d f).get? a1 = some x := e3
    have e4 : (s.heap.update d f).get? a2 = some x' := e4
    have g1 : ∃ c1 fs1, H a1 = some (.inst c1 fs1) := by rcases cases' _ _ e1 with ⟨rfl, _⟩ | ⟨_, e⟩; exact ⟨_, _, ho⟩; exact ⟨_, _, e⟩
    have g2 : ∃ c2 fs2, H a2 = some (.inst c2 fs2) := by rcases cases' _ _ e2 with ⟨rfl, _⟩ | ⟨_, e⟩; exact ⟨_, _, ho⟩; exact ⟨_, _, e⟩
    refine absG fun Cg hCg => ?_
    obtain ⟨_, _, g1⟩ := g1
    obtain ⟨_, _, g2⟩ := g2
    refine hCg ?_; clear hCg
    rw [Heap.get?_update_other _ f (Ne.symm (nd _ _ g1))] at e3
    rw [Heap.get?_update_other _ f (Ne.symm (nd _ _ g2))] at e4
    exact S.inj a1 a2 _ _ _ _ x x' d' g1 g2 e3 e4 e5 e6
  · by_cases q : b = d
    · obtain ⟨od, lk⟩ := hh.look S
      rw [q, Heap.get?_update_self f lk (hf _ lk)] at e; cases e
    · rw [Heap.get?_update_other _ f (Ne.symm q)] at e; exact e
  · rcases cases' _ _ e with ⟨rfl, _⟩ | ⟨_, e⟩
    · exact .inl ⟨_, ho⟩
    · exact .inl ⟨x, e⟩
noncomputable def OptRep : Option Value → Option V → Prop
  | none, none => True
  | some v, some w => RepV v w
  | _, _ => False
structure EnvOk (c : Ctx) (env : Env) : Prop where
  glob : env.globals = mainGlobals
  blts : env.builtins = builtinsNs
  kind : env.scope.kind = .function
  kglob : ∀ x, c.kinds.lookup x = some .globalImplicit → env.kindOf x = some .globalImplicit
  kloc : ∀ x, c.kinds.lookup x = some .local → env.kindOf x = some .local
  kcell : ∀ x, c.kinds.lookup x = some .cell → env.kindOf x = some .cell
  kfree : ∀ x, c.kinds.lookup x = some .free → env.kindOf x = some .free ∨ env.kindOf x = some .cell
  inj : ∀ x y i, c.ν.lookup x = some i → c.ν.lookup y = some i → x = y
  bnd : ∀ x i, c.ν.lookup x = some i → i < c.next
noncomputable def isCell (c : Ctx) (x : Str) : Prop := c.kinds.lookup x = some .cell ∨ c.kinds.lookup x = some .free
structure EnvSt (C : Cfg) (c : Ctx) (env : Env) (m : Loc) (H : Heap) (h : PHeap) : Prop where
  len : m.length = c.next
  ns : ∃ mm, h.Ns env.locals mm ∧ ∀ x i, c.ν.lookup x = some i → c.kinds.lookup x = some .local → OptRep (mm x) (m[i]?.join)
  cells : ∀ x i, c.ν.lookup x = some i → isCell c x → ∃ a ov, env.cells.lookup x = some a ∧ h.IsCell a ov ∧ OptRep ov (m[i]?.join)
  apL : H env.locals = none ∧ ¬ Hid H h env.locals ∧ C.h₀.get? env.locals = none
  apC : ∀ x a, env.cells.lookup x = some a → H a = none ∧ ¬ Hid H h a ∧ C.h₀.get? a = none ∧ a ≠ env.locals ∧ ∃ o, h.get? a = some o
  injC : ∀ x y a, env.cells.lookup x = some a → env.cells.lookup y = some a → x = y
theorem not_fp {b : Addr} (a : H b = none) (n : ¬ Hid H h b) : ¬ Fp H h b := fun f => by
  rcases f with ⟨x, f⟩ | ⟨x, f⟩ | f
  · rw [a] at f; cases f
  · rw [a] at f; cases f
  · exact n f
theorem Ext.apart (x : Ext H h H' h') {b : Addr} {o : Obj} (e : h.get? b = some o) (a : H b = none) (n : ¬ Hid H h b) : h'.get? b = some o ∧ H' b = none ∧ ¬ Hid H' h' b := by
  refine ⟨x.keep _ _ e (not_fp a n), ?_, fun y => ?_⟩
  · cases q : H' b with
    | none => rfl
    | some o' =>
      rcases x.dom _ _ q with ⟨z, q⟩ | q
      · rw [a] at q; cases q
      · rw [e] at q; cases q
  · rcases x.fresh _ (.inr (.inr y)) with f | q
    · exact not_fp a n f
    · rw [e] at q; cases q
theorem EnvSt.ext {c : Ctx} {env : Env} {m : Loc} (x : EnvSt C c env m H h) (y : Ext H h H' h') : EnvSt C c env m H' h' := by
  refine absG fun Cg hCg => ?_
  obtain ⟨mm, ⟨o, es, ep, ho, hr⟩, hm⟩ := x.ns
  have l := y.apart ho x.apL.1 x.apL.2.1
  refine hCg ?_; clear hCg
  refine ⟨x.len, ⟨mm, ⟨o, es, ep, l.1, hr⟩, hm⟩, fun z i e k => ?_, ⟨l.2.1, l.2.2, x.apL.2.2⟩, fun z a e => ?_, x.injC⟩
  · refine absG fun Cg hCg => ?_
    obtain ⟨a, ov, e1, ⟨oc, e2, e3⟩, e4⟩ := x.cells z i e k
    obtain ⟨n1, n2, n3, n4, _⟩ := x.apC _ _ e1
    refine hCg ?_; clear hCg
    exact ⟨a, ov, e1, ⟨oc, (y.apart e2 n1 n2).1, e3⟩, e4⟩
  · refine absG fun Cg hCg => ?_
    obtain ⟨n1, n2, n3, n4, o', lk⟩ := x.apC _ _ e
    have q := y.apart lk n1 n2
    refine hCg ?_; clear hCg
    exact ⟨q.2.1, q.2.2, n3, n4, o', q.1⟩
end ML
namespace ML
open PySem PySem.W PySem.Calls PyProof.Rows
variable {C : Cfg} {H H' H'' : Heap} {s s' : Shared} {h h' h'' : PHeap} {A : Around}
noncomputable def PE (C : Cfg) (H : Heap) (s : Shared) (Q : PV) : Value → Shared → Prop := fun v s' => ∃ mv H', RepV v mv ∧ StH C H' s' ∧ Ext H s.heap H' s'.heap ∧ Q mv H'
noncomputable def PB (C : Cfg) (H : Heap) (s : Shared) (Q : Bool → Prop) : Value → Shared → Prop := fun v s' => ∃ r, v = .bool r ∧ StH C H s' ∧ Ext H s.heap H s'.heap ∧ Q r
noncomputable def NoE : Value → Shared → Prop := fun _ _ => False
structure AOk (A : Around) (n : Nat) : Prop where
  hd : A.handled = none
  dp : A.depth + 4 * n ≤ 900
  un : A.units + 20 * n ≤ 9000
theorem RepV.int {v : Value} {i : Int} (r : RepV v (.int i)) : ∃ t, v = .int i t := by cases v <;> first | exact r.elim | (cases (show _ = _ from r); exact ⟨_, rfl⟩)
theorem RepV.ref {v : Value} {a : Nat} (r : RepV v (.ref a)) : v = .ref a := by cases v <;> first | exact r.elim | (cases (show _ = _ from r); rfl)
theorem RepV.none {v : Value} (r : RepV v .none) : v = .none := by cases v <;> first | exact r.elim | rfl
theorem RepV.bool {v : Value} {b : Bool} (r : RepV v (.bool b)) : v = .bool b := by cases v <;> first | exact r.elim | (cases (show _ = _ from r); rfl)
theorem RepV.str {v : Value} {k : Nat} (r : RepV v (.str k)) : ∃ x t, v = .str x t ∧ strIs k x := by cases v <;> first | exact r.elim | exact ⟨_, _, rfl, r⟩
theorem RepV.flt {v : Value} {k : UInt64} (r : RepV v (.flt k)) : ∃ t, v = .float k t := by cases v <;> first | exact r.elim | (cases (show _ = _ from r); exact ⟨_, rfl⟩)
theorem PE.here {Q : PV} {v : Value} {mv : V} (S : StH C H s) (r : RepV v mv) (q : Q mv H) (tk : Nat) : PE C H s Q v { s with toks := tk } := ⟨mv, H, r, S.toks tk, Ext.refl, q⟩
theorem PE.at {Q : PV} {v : Value} {mv : V} (S : StH C H s) (r : RepV v mv) (q : Q mv H) : PE C H s Q v s := ⟨mv, H, r, S, Ext.refl, q⟩
theorem PB.at {Q : Bool → Prop} {r : Bool} (S : StH C H s) (q : Q r) : PB C H s Q (.bool r) s := ⟨r, rfl, S, Ext.refl, q⟩
theorem All2.take {α β : Type} {R : α → β → Prop} : ∀ {l : List α} {m : List β} (i : Nat), All2 R l m → All2 R (l.take i) (m.take i)
  | _, _, 0, _ => by simpa using .nil
  | _, _, i + 1, .nil => by simpa using .nil
  | _, _, i + 1, .cons a r => .cons a (r.take i)
theorem All2.drop {α β : Type} {R : α → β → Prop} : ∀ {l : List α} {m : List β} (i : Nat), All2 R l m → All2 R (l.drop i) (m.drop i)
  | _, _, 0, r => r
  | _, _, i + 1, .nil => by simpa using .nil
  | _, _, i + 1, .cons _ r => r.drop i
theorem All2.eraseIdx {α β : Type} {R : α → β → Prop} : ∀ {l : List α} {m : List β} (i : Nat), All2 R l m → All2 R (l.eraseIdx i) (m.eraseIdx i)
  | _, _, _, .nil => by simpa using .nil
  | _, _, 0, .cons _ r => r
  | _, _, i + 1, .cons a r => .cons a (r.eraseIdx i)
theorem All2.set {α β : Type} {R : α → β → Prop} {x : α} {y : β} (h : R x y) : ∀ {l : List α} {m : List β} (i : Nat), All2 R l m → All2 R (l.set i x) (m.set i y)
  | _, _, _, .nil => by simpa using .nil
  | _, _, 0, .cons _ r => .cons h r
  | _, _, i + 1, .cons a r => .cons a (r.set h i)
theorem sizeLine_lim {n : Nat} (h : n ≤ lim) : n ≤ sizeLine := by
  have : lim ≤ sizeLine := by decide
  (first | lia | omega)
theorem PE.list {Q : PV} {vs : List Value} {xs : List V} (S : StH C H s) (hr : All2 RepV vs xs) (hz : xs.length ≤ 2 * lim) (hw : allocW (.list xs) H Q) {n : Nat} :
    PE C H s Q (.ref s.heap.objs.size) { s with heap := s.heap.push { cls := .type "list", data := .seq vs.toArray n } } := by
  obtain ⟨S', E'⟩ := S.alloc (ob := { cls := .type "list", data := .seq vs.toArray n }) (o := .list xs) (tk := s.toks) rfl (fun _ _ q => by cases q) ⟨vs, n, Heap.get?_push_size _ rfl, hr, hr.length ▸ hz⟩
  exact ⟨.ref _, _, rfl, S', E', hw _ S.fresh_none⟩
theorem PE.tup {Q : PV} {vs : List Value} {xs : List V} (S : StH C H s) (hr : All2 RepV vs xs) (hz : xs.length ≤ 2 * lim) (hw : allocW (.tup xs) H Q) {n : Nat} :
    PE C H s Q (.ref s.heap.objs.size) { s with heap := s.heap.push { cls := .type "tuple", data := .seq vs.toArray n } } := by
  obtain ⟨S', E'⟩ := S.alloc (ob := { cls := .type "tuple", data := .seq vs.toArray n }) (o := .tup xs) (tk := s.toks) rfl (fun _ _ q => by cases q) ⟨vs, ⟨_, Heap.get?_push_size _ rfl, rfl, n, rfl⟩, hr, hr.length ▸ hz⟩
  exact ⟨.ref _, _, rfl, S', E', hw _ S.fresh_none⟩
theorem mulOk {x y : Int} (h : mid x ∨ mid y) : IntMulOk x y := by
  rcases h with h | h
  · exact .of_left (intBits_le_64 (by have := h.1; (first | lia | omega)) (by have := h.2; (first | lia | omega)))
  · exact .of_right (intBits_le_64 (by have := h.1; (first | lia | omega)) (by have := h.2; (first | lia | omega)))
theorem PE.int {Q : PV} {i : Int} {t : Tok} (S : StH C H s) (q : Q (.int i) H) (tk : Nat) : PE C H s Q (.int i t) { s with toks := tk } := ⟨.int i, H, rfl, S.toks tk, Ext.refl, q⟩
theorem int2_get {F : Int → Int → Prop} {x y : V} (h : intW2 x y F) : ∃ i j, x = .int i ∧ y = .int j ∧ F i j := by
  cases x with
  | int i => cases y with
    | int j => exact ⟨i, j, rfl, rfl, h⟩
    | _ => exact h.elim
  | _ => exact h.elim
theorem two_ints {a b : Value} {i j : Int} (ha : RepV a (.int i)) (hb : RepV b (.int j)) : ∃ t u, a = .int i t ∧ b = .int j u := by
  obtain ⟨t, rfl⟩ := ha.int; obtain ⟨u, rfl⟩ := hb.int; exact ⟨t, u, rfl, rfl⟩
theorem bop_ok {op : Bop} {pop : Operator} {a b : Value} {x y : V} {Q : PV} (S : StH C H s) (ha : RepV a x) (hb : RepV b y) (ho : trOp pop = some op) (hw : bopW op x y H Q) :
    wpAny C.M A (binaryOp pop a b) (PE C H s Q) NoE s := by
  cases pop <;> simp only [trOp, Option.some.injEq, reduceCtorEq] at ho <;> subst ho
  case Add =>
    cases x with
    | int x => cases y with
      | int y =>
        obtain ⟨t, rfl⟩ := ha.int; obtain ⟨u, rfl⟩ := hb.int
        exact P.add_int (PE.int S hw _)
      | _ => exact hw.elim
    | ref p => cases y with
      | ref q =>
        cases ha.ref; cases hb.ref
        replace hw : addL p q H Q := hw
        unfold addL at hw
        split at hw
        case h_2 => exact hw.elim
        rename_i xs hx
        split at hw
        · rename_i ys hy
          obtain ⟨vs, n, l1, r1, _⟩ := S.rep _ _ hx
          obtain ⟨us, n', l2, r2, _⟩ := S.rep _ _ hy
          have z : (vs.toArray ++ us.toArray) = (vs ++ us).toArray := by simp
          refine P.add_list l1 l2 (by rw [z]; exact PE.list S (r1.append r2) (by rw [List.length_append]; have := hw.1; (first | lia | omega)) hw.2) (by have := sizeLine_lim hw.1; simp only [List.size_toArray, r1.length, r2.length]; (first | lia | omega))
        · exact hw.elim
      | _ => exact hw.elim
    | _ => exact hw.elim
  case Sub =>
    obtain ⟨i, j, rfl, rfl, q⟩ := int2_get hw; obtain ⟨t, u, rfl, rfl⟩ := two_ints ha hb; exact P.sub_int (PE.int S q _)
  case Mult =>
    cases x with
    | int x => cases y with
      | int y =>
        obtain ⟨t, rfl⟩ := ha.int; obtain ⟨u, rfl⟩ := hb.int
        exact P.mul_int (PE.int S hw.2 _) (mulOk hw.1)
      | _ => exact hw.elim
    | _ => exact hw.elim
  case Mod =>
    obtain ⟨x, y, rfl, rfl, hw⟩ := int2_get hw; obtain ⟨t, u, rfl, rfl⟩ := two_ints ha hb
    have e : x.fmod y = x % y := Int.fmod_eq_emod_of_nonneg _ (Int.le_of_lt hw.1)
    exact mod_int' (fun q => by rw [q] at hw; exact absurd hw.1 (by decide)) (by rw [e]; exact PE.int S hw.2 _)
  case FloorDiv =>
    obtain ⟨x, y, rfl, rfl, hw⟩ := int2_get hw; obtain ⟨t, u, rfl, rfl⟩ := two_ints ha hb
    have e : x.fdiv y = x / y := Int.fdiv_eq_ediv_of_nonneg _ (Int.le_of_lt hw.1)
    exact floordiv_int (fun q => by rw [q] at hw; exact absurd hw.1 (by decide)) (by rw [e]; exact PE.int S hw.2.2 _) (.inl (PyProof.noPylong_small (by have := hw.1; have := hw.2.1; (first | lia | omega))))
theorem neg_ok {a : Value} {x : V} {Q : PV} (S : StH C H s) (ha : RepV a x) (hw : negW x H Q) : wpAny C.M A (unaryOp .USub a) (PE C H s Q) NoE s := by
  unfold negW at hw
  split at hw
  · obtain ⟨t, rfl⟩ := ha.int
    exact P.neg_int (PE.int S hw _)
  · exact hw.elim
theorem truthy_ok {a : Value} {x : V} {Q : Bool → Prop} (S : StH C H s) (ha : RepV a x) (hw : truthW x H Q) : wpAny C.M A (truthy a) (fun r s' => s' = s ∧ Q r) NoE s := by
  unfold truthW at hw
  split at hw
  · cases ha.none; exact fun _ _ _ => ⟨rfl, hw⟩
  · cases ha.bool; exact wpAny_truthy_bool ⟨rfl, hw⟩
  · rename_i i
    obtain ⟨t, rfl⟩ := ha.int
    refine P.truthy_int ⟨rfl, ?_⟩
    have : (i != 0) = decide (i ≠ 0) := by by_cases q : i = 0 <;> simp [q]
    rw [this]; exact hw
  · exact hw.elim
theorem is_ok {a b : Value} {x y : V} {Q : Bool → Prop} (S : StH C H s) (ha : RepV a x) (hb : RepV b y) (hw : isW x y H Q) : wpAny C.M A (isSame a b) (fun r s' => s' = s ∧ Q r) NoE s := by
  have plain : ∀ {r : Bool}, plainIs a b = true → (a == b) = r → Q r → wpAny C.M A (isSame a b) (fun r s' => s' = s ∧ Q r) NoE s := fun hp e q => wpAny_isSame_plain hp ⟨rfl, e ▸ q⟩
  cases x with
  | ref p => cases y with
    | ref q =>
      cases ha.ref; cases hb.ref
      by_cases e : p = q
      · subst e; exact wpAny_isSame_ref_self ⟨rfl, hw.1 rfl⟩
      · obtain ⟨n, i, k⟩ := hw.2 e
        obtain ⟨oq, hq⟩ := Option.isSome_iff_exists.mp i
        obtain ⟨ob, lq⟩ := (S.rep _ _ hq).look
        cases hp : H p with
        | none => rw [hp] at n; exact n.elim
        | some op =>
          rw [hp] at n
          have r := S.rep _ _ hp
          cases op with
          | tup => exact n.elim
          | list xs => obtain ⟨vs, k', l, _⟩ := r; exact wpAny_isSame_ref_other e l lq (by show Value.type "list" ≠ _; decide) ⟨rfl, k⟩
          | ro xs => obtain ⟨vs, ⟨o, l, c, _⟩, _⟩ := r; exact wpAny_isSame_ref_other e l lq (by rw [c]; decide) ⟨rfl, k⟩
          | inst c fs => obtain ⟨Ca, d, es, n', _, l, _⟩ := r; exact wpAny_isSame_ref_other e l lq (by intro z; cases z) ⟨rfl, k⟩
          | rng x y => obtain ⟨⟨t, u, v, l⟩, _⟩ := r; exact wpAny_isSame_ref_other e l lq (by show Value.type "range" ≠ _; decide) ⟨rfl, k⟩
          | dict es => exact r.elim
    | none => cases ha.ref; cases hb.none; exact plain rfl rfl hw
    | bool c => cases ha.ref; cases hb.bool; exact plain rfl rfl hw
    | _ => exact hw.elim
  | none => cases y with
    | none => cases ha.none; cases hb.none; exact plain rfl rfl hw
    | bool c => cases ha.none; cases hb.bool; exact plain rfl rfl hw
    | ref q => cases ha.none; cases hb.ref; exact plain rfl rfl hw
    | int i => cases ha.none; obtain ⟨t, rfl⟩ := hb.int; exact plain rfl rfl hw
    | flt i => cases ha.none; obtain ⟨t, rfl⟩ := hb.flt; exact plain rfl rfl hw
    | _ => exact hw.elim
  | bool c => cases y with
    | none => cases ha.bool; cases hb.none; exact plain rfl rfl hw
    | bool c' =>
      cases ha.bool; cases hb.bool
      refine plain rfl ?_ hw
      cases c <;> cases c' <;> rfl
    | ref q => cases ha.bool; cases hb.ref; exact plain rfl rfl hw
    | _ => exact hw.elim
  | int i => cases y with
    | none => obtain ⟨t, rfl⟩ := ha.int; cases hb.none; exact plain rfl rfl hw
    | bool c => obtain ⟨t, rfl⟩ := ha.int; cases hb.bool; exact plain rfl rfl hw
    | ref c => obtain ⟨t, rfl⟩ := ha.int; cases hb.ref; exact plain rfl rfl hw
    | _ => exact hw.elim
  | flt i => cases y with
    | none => obtain ⟨t, rfl⟩ := ha.flt; cases hb.none; exact plain rfl rfl hw
    | _ => exact hw.elim
  | str i => cases y with
    | none => obtain ⟨x, t, rfl, _⟩ := ha.str; cases hb.none; exact plain rfl rfl hw
    | _ => exact hw.elim
theorem strIs.inj {k l : Nat} {x : Str} (a : strIs k x) (b : strIs l x) : k = l := by unfold strIs at a b; rw [a] at b; exact Option.some.inj b
theorem strIs.uniq {k : Nat} {x y : Str} (a : strIs k x) (b : strIs k y) : x = y := by
  have key : ∀ z : Str, strIs k z → (k = 0 ∧ z = "put") ∨ (k = 1 ∧ z = "del") := fun z e => by
    unfold strIs coreStrs at e
    simp only [List.lookup] at e
    split at e
    · rename_i q; exact .inl ⟨(Option.some.inj e).symm, beq_iff_eq.mp q⟩
    · split at e
      · rename_i q; exact .inr ⟨(Option.some.inj e).symm, beq_iff_eq.mp q⟩
      · cases e
  rcases key x a with ⟨e1, e2⟩ | ⟨e1, e2⟩ <;> rcases key y b with ⟨e3, e4⟩ | ⟨e3, e4⟩
  · rw [e2, e4]
  · rw [e1] at e3; cases e3
  · rw [e1] at e3; cases e3
  · rw [e2, e4]
end ML
namespace ML
open PySem PySem.W PySem.Calls PyProof.Rows
variable {C : Cfg} {Φ : Orac} {c : Ctx} {H H' H'' H1 : Heap} {s s' s1 : Shared} {h h' h'' : PHeap} {A : Around} {env : Env} {m : Loc}
noncomputable def PEs (C : Cfg) (n : Nat) (H : Heap) (s : Shared) (Q : List V → Heap → Prop) : List Value → Shared → Prop := fun vs s' => ∃ xs H', vs.length = n ∧ All2 RepV vs xs ∧ StH C H' s' ∧ Ext H s.heap H' s'.heap ∧ Q xs H'
noncomputable def PT (C : Cfg) (H : Heap) (s : Shared) (Q : Bool → Heap → Prop) : Bool → Shared → Prop := fun r s' => ∃ H', StH C H' s' ∧ Ext H s.heap H' s'.heap ∧ Q r H'
theorem PE.ext {Q : PV} {v : Value} (x : Ext H s.heap H1 s1.heap) (y : PE C H1 s1 Q v s') : PE C H s Q v s' := let ⟨mv, H', r, S, e, q⟩ := y; ⟨mv, H', r, S, x.trans e, q⟩
theorem PT.ext {Q : Bool → Heap → Prop} {v : Bool} (x : Ext H s.heap H1 s1.heap) (y : PT C H1 s1 Q v s') : PT C H s Q v s' := let ⟨H', S, e, q⟩ := y; ⟨H', S, x.trans e, q⟩
structure At (C : Cfg) (c : Ctx) (env : Env) (A : Around) (m : Loc) (H : Heap) (s : Shared) : Prop where
  eo : EnvOk c env
  ao : AOk A c.top
  S : StH C H s
  N : EnvSt C c env m H s.heap
theorem At.on (a : At C c env A m H s) (S : StH C H1 s1) (x : Ext H s.heap H1 s1.heap) : At C c env A m H1 s1 := ⟨a.eo, a.ao, S, a.N.ext x⟩
noncomputable def SndE (C : Cfg) (Φ : Orac) (c : Ctx) (e : Expr) (me : E) : Prop :=
  ∀ {env : Env} {A : Around} {m : Loc} {H : Heap} {s : Shared} {Q : PV}, At C c env A m H s → wpE Φ me m H Q → wpAny C.M A (eval e env) (PE C H s Q) NoE s
noncomputable def SndT (C : Cfg) (Φ : Orac) (c : Ctx) (e : Expr) (me : E) : Prop :=
  ∀ {env : Env} {A : Around} {m : Loc} {H : Heap} {s : Shared} {Q : Bool → Heap → Prop}, At C c env A m H s → wpT Φ me m H Q → wpAny C.M A (isTrue e env (eval e env)) (PT C H s Q) NoE s
noncomputable def SndEs (C : Cfg) (Φ : Orac) (c : Ctx) (es : List Expr) (mes : List E) : Prop :=
  ∀ {env : Env} {A : Around} {m : Loc} {H : Heap} {s : Shared} {Q : List V → Heap → Prop} {pos : Pos}, At C c env A m H s → wpEs Φ mes m H Q → wpAny C.M A (spliced (backTo pos (starEach es env))) (PEs C es.length H s Q) NoE s
theorem SndE.then {e : Expr} {me : E} {Q : PV} {R : Value → Shared → Prop} (h : SndE C Φ c e me) (a : At C c env A m H s) (hw : wpE Φ me m H Q)
    (k : ∀ v s1 x H1, RepV v x → At C c env A m H1 s1 → Ext H s.heap H1 s1.heap → Q x H1 → R v s1) : wpAny C.M A (eval e env) R NoE s :=
  wpAny_mono (h a hw) (fun v s1 ⟨x, H1, r, S1, E1, q⟩ => k v s1 x H1 r (a.on S1 E1) E1 q) fun _ _ f => f.elim
theorem SndT.then {e : Expr} {me : E} {Q : Bool → Heap → Prop} {R : Bool → Shared → Prop} (h : SndT C Φ c e me) (a : At C c env A m H s) (hw : wpT Φ me m H Q)
    (k : ∀ r s1 H1, At C c env A m H1 s1 → Ext H s.heap H1 s1.heap → Q r H1 → R r s1) : wpAny C.M A (isTrue e env (eval e env)) R NoE s :=
  wpAny_mono (h a hw) (fun r s1 ⟨H1, S1, E1, q⟩ => k r s1 H1 (a.on S1 E1) E1 q) fun _ _ f => f.elim
theorem SndEs.then {es : List Expr} {mes : List E} {pos : Pos} {Q : List V → Heap → Prop} {R : List Value → Shared → Prop} (h : SndEs C Φ c es mes) (a : At C c env A m H s) (hw : wpEs Φ mes m H Q)
    (k : ∀ vs s1 xs H1, vs.length = es.length → All2 RepV vs xs → At C c env A m H1 s1 → Ext H s.heap H1 s1.heap → Q xs H1 → R vs s1) : wpAny C.M A (spliced (backTo pos (starEach es env))) R NoE s :=
  wpAny_mono (h a hw) (fun v s1 ⟨x, H1, l, r, S1, E1, q⟩ => k v s1 x H1 l r (a.on S1 E1) E1 q) fun _ _ f => f.elim
theorem wpAny_noE {α : Type} {t : Sem α} {R : α → Shared → Prop} {E' : Value → Shared → Prop} (h : wpAny C.M A t R NoE s) : wpAny C.M A t R E' s := wpAny_mono h (fun _ _ z => z) fun _ _ f => f.elim
theorem wpAny_ext {α : Type} {t : Sem α} {R : α → Shared → Prop} {R' : α → Shared → Prop} (h : wpAny C.M A t R NoE s) (k : ∀ v s', R v s' → R' v s') : wpAny C.M A t R' NoE s := wpAny_mono h k fun _ _ f => f.elim
theorem name_ok {x : Str} {pos : Pos} {k : NameKind} {i : Nat} {Q : PV} (hd : (x == ("__debug__" : Str)) = false) (hcd : (x == ("__classdict__" : Str)) = false) (hk : c.kinds.lookup x = some k) (hv : isVarKind k = true) (hi : c.ν.lookup x = some i)
    (a : At C c env A m H s) (hw : wpE Φ (.var i) m H Q) : wpAny C.M A (eval (.Name x pos) env) (PE C H s Q) NoE s := by
  have hw' : varW m[i]? fun v => Q v H := hw
  unfold varW at hw'
  split at hw'
  · rename_i v hm
    refine wpAny_Name ?_ hd
    have fin : ∀ ov, OptRep ov (m[i]?.join) → ∃ pv, ov = some pv ∧ RepV pv v := fun ov r => by
      rw [hm] at r
      cases ov with
      | none => exact r.elim
      | some pv => exact ⟨pv, rfl, r⟩
    cases k with
    | «local» =>
      obtain ⟨mm, hn, hm'⟩ := a.N.ns
      obtain ⟨pv, e, r⟩ := fin _ (hm' x i hi hk)
      exact wpAny_loadName_local a.eo.kind (a.eo.kloc _ hk) hn e (PE.at a.S r hw')
    | cell =>
      obtain ⟨ca, ov, e1, e2, e3⟩ := a.N.cells x i hi (.inl hk)
      obtain ⟨pv, rfl, r⟩ := fin _ e3
      exact wpAny_loadName_cell a.eo.kind (a.eo.kcell _ hk) e1 e2 (PE.at a.S r hw')
    | free =>
      obtain ⟨ca, ov, e1, e2, e3⟩ := a.N.cells x i hi (.inr hk)
      obtain ⟨pv, rfl, r⟩ := fin _ e3
      rcases a.eo.kfree _ hk with q | q
      · exact wpAny_loadName_free a.eo.kind q e1 e2 (PE.at a.S r hw') hcd
      · exact wpAny_loadName_cell a.eo.kind q e1 e2 (PE.at a.S r hw')
    | _ => cases hv
  · exact hw'.elim
theorem lit_ok {k : Const} {n : Nat} {pos : Pos} {e : E} {Q : PV} (hs : c.tab.sts = coreStrs) (ht : trConst c k = some e) (a : At C c env A m H s) (hw : wpE Φ e m H Q) : wpAny C.M A (eval (.Constant k n pos) env) (PE C H s Q) NoE s := by
  cases k with
  | none => cases ht; simp only [w_var, w_lit, w_bop, w_neg, w_cmp, w_cmp2, w_and, w_or, w_not, w_call, w_meth, w_new, w_prim, w_attr, w_idx, w_slice, w_list, w_tup, w_comp] at hw; exact wpAny_Constant_none (PE.at (mv := .none) a.S trivial hw)
  | bool b => cases ht; simp only [w_var, w_lit, w_bop, w_neg, w_cmp, w_cmp2, w_and, w_or, w_not, w_call, w_meth, w_new, w_prim, w_attr, w_idx, w_slice, w_list, w_tup, w_comp] at hw; exact wpAny_Constant_bool (PE.at (mv := .bool b) a.S rfl hw)
  | int i => cases ht; simp only [w_var, w_lit, w_bop, w_neg, w_cmp, w_cmp2, w_and, w_or, w_not, w_call, w_meth, w_new, w_prim, w_attr, w_idx, w_slice, w_list, w_tup, w_comp] at hw; exact wpAny_Constant_int (PE.int a.S hw _)
  | float b => cases ht; simp only [w_var, w_lit, w_bop, w_neg, w_cmp, w_cmp2, w_and, w_or, w_not, w_call, w_meth, w_new, w_prim, w_attr, w_idx, w_slice, w_list, w_tup, w_comp] at hw; exact fun _ _ _ => PE.here (v := .float b s.toks) (mv := .flt b) a.S rfl hw (s.toks + 1)
  | str x =>
    unfold trConst at ht
    rw [hs] at ht
    obtain ⟨k, e1, rfl⟩ := Option.map_eq_some_iff.mp ht
    simp only [w_var, w_lit, w_bop, w_neg, w_cmp, w_cmp2, w_and, w_or, w_not, w_call, w_meth, w_new, w_prim, w_attr, w_idx, w_slice, w_list, w_tup, w_comp] at hw
    exact wpAny_Constant_str (PE.here (v := .str x s.toks) (mv := .str k) a.S e1 hw _)
  | _ => cases ht
section
variable {e e1 e2 e3 : Expr} {a1 a2 a3 : E} {pos : Pos} {Q : PV}
theorem binop_ok {pop : Operator} {op : Bop} (h1 : SndE C Φ c e1 a1) (h2 : SndE C Φ c e2 a2) (ho : trOp pop = some op) (a : At C c env A m H s) (hw : wpE Φ (.bop op a1 a2) m H Q) :
    wpAny C.M A (eval (.BinOp e1 pop e2 pos) env) (PE C H s Q) NoE s := by
  simp only [w_var, w_lit, w_bop, w_neg, w_cmp, w_cmp2, w_and, w_or, w_not, w_call, w_meth, w_new, w_prim, w_attr, w_idx, w_slice, w_list, w_tup, w_comp] at hw
  refine wpAny_BinOp (h1.then a hw fun v s1 x H1 r1 a1 x1 q1 => h2.then a1 q1 fun v' s2 y H2 r2 a2 x2 q2 => ?_)
  cases hr : x with
  | ref p =>
    subst hr
    exact wpAny_ext (bop_ok a2.S r1 r2 ho q2) fun _ _ z => PE.ext (x1.trans x2) z
  | _ => subst hr; exact wpAny_ext (bop_ok a2.S r1 r2 ho q2) fun _ _ z => PE.ext (x1.trans x2) z
theorem usub_ok (h1 : SndE C Φ c e1 a1) (a : At C c env A m H s) (hw : wpE Φ (.neg a1) m H Q) : wpAny C.M A (eval (.UnaryOp .USub e1 pos) env) (PE C H s Q) NoE s := by
  simp only [w_var, w_lit, w_bop, w_neg, w_cmp, w_cmp2, w_and, w_or, w_not, w_call, w_meth, w_new, w_prim, w_attr, w_idx, w_slice, w_list, w_tup, w_comp] at hw
  exact wpAny_UnaryOp (h1.then a hw fun v s1 x H1 r1 a1 x1 q1 => wpAny_ext (neg_ok a1.S r1 q1) fun _ _ z => PE.ext x1 z)
theorem not_ok (h1 : SndE C Φ c e1 a1) (a : At C c env A m H s) (hw : wpE Φ (.not a1) m H Q) : wpAny C.M A (eval (.UnaryOp .Not e1 pos) env) (PE C H s Q) NoE s := by
  simp only [w_var, w_lit, w_bop, w_neg, w_cmp, w_cmp2, w_and, w_or, w_not, w_call, w_meth, w_new, w_prim, w_attr, w_idx, w_slice, w_list, w_tup, w_comp] at hw
  refine wpAny_UnaryOp (h1.then a hw fun v s1 x H1 r1 a1 x1 q1 => not_value (wpAny_ext (truthy_ok a1.S r1 q1) fun r s2 z => ?_))
  obtain ⟨rfl, z⟩ := z
  exact PE.ext x1 (PE.at (mv := .bool (!r)) a1.S rfl z)
theorem tnot_ok {Q : Bool → Heap → Prop} (h1 : SndT C Φ c e1 a1) (a : At C c env A m H s) (hw : wpT Φ (.not a1) m H Q) : wpAny C.M A (isTrue (.UnaryOp .Not e1 pos) env (eval (.UnaryOp .Not e1 pos) env)) (PT C H s Q) NoE s := by
  simp only [t_not, t_and, t_or, t_cmp, t_cmp2] at hw
  exact wpAny_isTrue_Not (wpAny_ext (h1 a hw) fun r s1 ⟨H1, S1, x1, q1⟩ => ⟨H1, S1, x1, q1⟩)
theorem tval_ok {Q : Bool → Heap → Prop} (h1 : SndE C Φ c e a1) (a : At C c env A m H s) (hw : wpE Φ a1 m H fun v H => truthW v H fun r => Q r H)
    (he : isTrue e env (eval e env) = (do let v ← eval e env; standAt e.pos; holding [v] (truthy v))) : wpAny C.M A (isTrue e env (eval e env)) (PT C H s Q) NoE s := by
  rw [he]
  refine wpAny_bind (h1.then a hw fun v s1 x H1 r1 a1 x1 q1 => wpAny_bind (wpAny_standAt (wpAny_holding (wpAny_ext (truthy_ok a1.S r1 q1) fun r s2 z => ?_))))
  obtain ⟨rfl, z⟩ := z
  exact ⟨H1, a1.S, x1, z⟩
theorem items_nil : SndEs C Φ c [] [] := fun {env A m H s Q pos} a hw => by
  simp only [w_enil, w_econs] at hw
  exact wpAny_items_nil ⟨[], H, rfl, .nil, a.S, Ext.refl, hw⟩
theorem items_cons {es : List Expr} {mes : List E} (hs : isStar e = false) (h1 : SndE C Φ c e a1) (h2 : SndEs C Φ c es mes) : SndEs C Φ c (e :: es) (a1 :: mes) := fun {env A m H s Q pos} a hw => by
  simp only [w_enil, w_econs] at hw
  refine wpAny_items_cons (h1.then a hw fun v s1 x H1 r1 a1 x1 q1 => h2.then a1 q1 fun vs s2 xs H2 l2 r2 a2 x2 q2 => ⟨x :: xs, H2, congrArg (· + 1) l2, .cons r1 r2, a2.S, x1.trans x2, q2⟩) ?_
  cases e <;> first | rfl | cases hs
theorem items_ok {f : Expr → Option E} (hf : ∀ e me, f e = some me → SndE C Φ c e me) : ∀ {es : List Expr} {mes : List E}, trEs f es = some mes → SndEs C Φ c es mes := by
  have key : ∀ {es : List Expr} {mes : List E}, (es.any isStar) = false → mapO f es = some mes → SndEs C Φ c es mes := by
    intro es
    induction es with
    | nil => intro mes _ h; cases h; exact items_nil
    | cons e es ih =>
      intro mes hs h
      simp only [List.any_cons, Bool.or_eq_false_iff] at hs
      unfold mapO at h
      split at h
      · rename_i b hb
        split at h
        · rename_i bs hbs; cases h; exact items_cons hs.1 (hf _ _ hb) (ih hs.2 hbs)
        · cases h
      · cases h
  intro es mes h
  unfold trEs at h
  split at h
  · cases h
  · rename_i q
    simp only [Bool.or_eq_true, not_or, Bool.not_eq_true] at q
    exact key q.1 h
theorem trEs_len {f : Expr → Option E} {es : List Expr} {mes : List E} (h : trEs f es = some mes) : es.length ≤ 20 := by
  unfold trEs at h
  split at h
  · cases h
  · rename_i q
    simp only [Bool.or_eq_true, not_or, Bool.not_eq_true, Bool.not_eq_false, Bool.not_eq_eq_eq_not, Bool.not_true, decide_eq_false_iff_not, Nat.not_le] at q
    simpa using q.2
theorem fits20 {n : Nat} (h : n ≤ 20) : n ≤ sizeLine := by rw [sizeLine_eq]; (first | lia | omega)
theorem list_ok {es : List Expr} {mes : List E} (hl : es.length ≤ 20) (h : SndEs C Φ c es mes) (a : At C c env A m H s) (hw : wpE Φ (.list mes) m H Q) : wpAny C.M A (eval (.List es pos) env) (PE C H s Q) NoE s := by
  simp only [w_var, w_lit, w_bop, w_neg, w_cmp, w_cmp2, w_and, w_or, w_not, w_call, w_meth, w_new, w_prim, w_attr, w_idx, w_slice, w_list, w_tup, w_comp] at hw
  exact wpAny_List (h.then a hw fun vs s1 xs H1 l r1 a1 x1 q1 => ⟨fits20 (l ▸ hl), PE.ext x1 (PE.list a1.S r1 (by rw [← r1.length, l]; unfold lim; (first | lia | omega)) q1)⟩)
theorem tuple_ok {es : List Expr} {mes : List E} {k : Nat} (hl : es.length ≤ 20) (h : SndEs C Φ c es mes) (a : At C c env A m H s) (hw : wpE Φ (.tup mes) m H Q) : wpAny C.M A (eval (.Tuple es k pos) env) (PE C H s Q) NoE s := by
  simp only [w_var, w_lit, w_bop, w_neg, w_cmp, w_cmp2, w_and, w_or, w_not, w_call, w_meth, w_new, w_prim, w_attr, w_idx, w_slice, w_list, w_tup, w_comp] at hw
  exact wpAny_Tuple (h.then a hw fun vs s1 xs H1 l r1 a1 x1 q1 => ⟨fits20 (l ▸ hl), PE.ext x1 (PE.tup a1.S r1 (by rw [← r1.length, l]; unfold lim; (first | lia | omega)) q1)⟩)
end
end ML
namespace ML
open PySem PySem.W PySem.Calls PyProof.Rows
variable {C : Cfg} {Φ : Orac} {c : Ctx} {H H' H'' H1 : Heap} {s s' s1 : Shared} {h h' h'' : PHeap} {A : Around} {env : Env} {m : Loc}
theorem attrIs.inj {i j : Nat} {x : Str} (a : attrIs i x) (b : attrIs j x) : i = j := by unfold attrIs at a b; rw [a] at b; exact Option.some.inj b
theorem attrIs.mem {i : Nat} {x : Str} (a : attrIs i x) : (x, i) ∈ coreAts := by
  unfold attrIs at a
  generalize coreAts = l at a
  induction l with
  | nil => cases a
  | cons p r ih =>
    obtain ⟨y, j⟩ := p
    simp only [List.lookup] at a
    split at a
    · rename_i q; cases a; rw [beq_iff_eq.mp q]; exact .head _
    · exact .tail _ (ih a)
theorem attrIs.uniq {i : Nat} {x y : Str} (a : attrIs i x) (b : attrIs i y) : x = y := by
  have key : ∀ p ∈ coreAts, (coreAts.map Prod.fst)[p.2]? = some p.1 := by decide
  exact Option.some.inj ((key _ a.mem).symm.trans (key _ b.mem))
theorem isStr_iff {x y : Str} {t : Tok} : (Value.str y t).isStr x = true ↔ y = x := by
  show (y == x) = true ↔ _
  exact beq_iff_eq
theorem find_field {i : Nat} {x : Str} {v : V} (hx : attrIs i x) : ∀ {es : List DictEntry} {fs : List (Nat × V)}, All2 RepE es fs → fs.lookup i = some v → ∃ e, es.find? (·.key.isStr x) = some e ∧ RepV e.val v
  | _, _, .nil, e => by cases e
  | en :: es, (j, w) :: fs, .cons r rs, e => by
    refine absG fun Cg hCg => ?_
    obtain ⟨y, t, k1, k2, k3⟩ := r
    refine hCg ?_; clear hCg
    dsimp only at k2 k3
    simp only [List.lookup] at e
    by_cases q : i = j
    · subst q
      simp only [beq_self_eq_true] at e
      cases e
      have : (en.key.isStr x) = true := by rw [k1]; exact isStr_iff.mpr (k2.uniq hx)
      exact ⟨en, by simp only [List.find?, this], k3⟩
    · rw [show (i == j) = false from beq_eq_false_iff_ne.mpr q] at e
      have : ¬ (en.key.isStr x) = true := by rw [k1]; exact fun z => q (hx.inj (isStr_iff.mp z ▸ k2))
      refine absG fun Cg hCg => ?_
      obtain ⟨e', a, b⟩ := find_field hx rs e
      refine hCg ?_; clear hCg
      exact ⟨e', by simp only [List.find?, Bool.eq_false_iff.mpr this]; exact a, b⟩
theorem find_none {x : Str} (hx : coreAts.lookup x = none) : ∀ {es : List DictEntry} {fs : List (Nat × V)}, All2 RepE es fs → es.find? (·.key.isStr x) = none
  | _, _, .nil => rfl
  | en :: es, (j, w) :: fs, .cons r rs => by
    refine absG fun Cg hCg => ?_
    obtain ⟨y, t, k1, k2, k3⟩ := r
    have : ¬ (en.key.isStr x) = true := by rw [k1]; exact fun z => by rw [isStr_iff.mp z] at k2; unfold attrIs at k2; rw [hx] at k2; cases k2
    refine hCg ?_; clear hCg
    simp only [List.find?, Bool.eq_false_iff.mpr this]; exact find_none hx rs
theorem no_refKey {es : List DictEntry} {fs : List (Nat × V)} (h : All2 RepE es fs) : es.any (·.refKey) = false := by
  induction h with
  | nil => rfl
  | cons r rs ih =>
    obtain ⟨y, t, k1, _⟩ := r
    rw [List.any_cons, ih, Bool.or_false]
    unfold DictEntry.refKey; rw [k1]
noncomputable def putF (hs : Int) (key pv : Value) : Option DictEntry → DictEntry
  | some e => { e with val := pv }
  | none => ⟨hs, key, pv⟩
theorem put_field {i : Nat} {x : Str} {v : V} {pv : Value} {hs : Int} {tk : Tok} (hx : attrIs i x) (hv : RepV pv v) : ∀ {es : List DictEntry} {fs : List (Nat × V)}, All2 RepE es fs →
    All2 RepE (nsPutIn x.cps.size x.cps.toList (putF hs (.str x tk) pv) es).1 (setF fs i v)
  | _, _, .nil => .cons ⟨x, tk, rfl, hx, hv⟩ .nil
  | en :: es, (j, w) :: fs, .cons r rs => by
    have r' := r
    refine absG fun Cg hCg => ?_
    obtain ⟨y, t, k1, k2, k3⟩ := r
    refine hCg ?_; clear hCg
    dsimp only at k2 k3
    unfold nsPutIn setF
    rw [Value.isStrByCps_eq]
    by_cases q : j = i
    · subst q
      have : (en.key.isStr x) = true := by rw [k1]; exact isStr_iff.mpr (k2.uniq hx)
      rw [if_pos this, if_pos rfl]
      exact .cons ⟨y, t, k1, k2, hv⟩ rs
    · have : ¬ (en.key.isStr x) = true := by rw [k1]; exact fun z => q ((hx.inj (isStr_iff.mp z ▸ k2)).symm)
      rw [if_neg this, if_neg q]
      exact .cons r' (put_field hx hv rs)
structure ClsOk (C : Cfg) (ci : Nat) (Ca : Addr) : Prop where
  ga : findIn C.K (.ref Ca) "__getattribute__" = some (some (.builtin "object.__getattribute__"))
  gt : findIn C.K (.ref Ca) "__getattr__" = some none
  sa : findIn C.K (.ref Ca) "__setattr__" = some (some (.builtin "object.__setattr__"))
  hd : (clsIn C.K Ca).any (·.hasDict) = true
  ats : ∀ i x, attrIs i x → findIn C.K (.ref Ca) x = some none
  pl : plainOver C.K Ca = true
  makes : makesIn C.K Ca = true
structure MethOk (C : Cfg) (x : Str) (Ca fa : Addr) : Prop where
  find : findIn C.K (.ref Ca) x = some (some (.ref fa))
  fn : typeIn C.K (.ref fa) = some (.type "function")
  no : coreAts.lookup x = none
noncomputable def bltNames : List Str := ["range", "len", "abs", "min", "max", "sum", "sorted", "list", "type", "int", "tuple", "bool", "isinstance", "float", "zip", "all"]
structure Cfg.Ok (C : Cfg) : Prop where
  blts : ∀ x, x ∈ bltNames → nsIn C.K mainGlobals x = some none
  nodbg : C.tab.fns.lookup ("__debug__" : Str) = none ∧ C.tab.cls.lookup ("__debug__" : Str) = none
  ats : C.tab.ats = coreAts
  hasCls : ∀ x ci, C.tab.cls.lookup x = some ci → ∃ Ca, C.clsA.lookup ci = some Ca
  sts : C.tab.sts = coreStrs
  X : C.K.In C.h₀
  T : TopRead C.p C.loose C.mg C.mb C.h₀
  cls : ∀ ci Ca, C.clsA.lookup ci = some Ca → ClsOk C ci Ca
  keep : ∀ f fa, C.fnA.lookup f = some fa → fnIn C.K fa = true
  fns : ∀ x f fa, C.tab.fns.lookup x = some f → C.fnA.lookup f = some fa → nsIn C.K mainGlobals x = some (some (.ref fa))
  mts : ∀ x f fa Ca, C.tab.mts.lookup x = some f → C.fnA.lookup f = some fa → C.clsA.lookup (methCls f) = some Ca → MethOk C x Ca fa
  clsN : ∀ x ci Ca, C.tab.cls.lookup x = some ci → C.clsA.lookup ci = some Ca → nsIn C.K mainGlobals x = some (some (.ref Ca))
  inits : ∀ ci Ca fa, C.clsA.lookup ci = some Ca → C.fnA.lookup ci = some fa → findIn C.K (.ref Ca) "__init__" = some (some (.ref fa)) ∧ typeIn C.K (.ref fa) = some (.type "function")
  have_ : ∀ f l, C.tab.lv.lookup f = some l → ∃ fa, C.fnA.lookup f = some fa
section
variable {a : Addr} {ci : Nat} {fs : List (Nat × V)} {i : Nat} {x : Str}
theorem StH.X (O : C.Ok) (S : StH C H s) : C.K.In s.heap := O.X.keeps S.base
theorem handed_rep {pv : Value} {v : V} (r : RepV pv v) : handedIn pv = true := by cases pv <;> first | rfl | (cases v <;> exact r.elim)
theorem getAttr_ok {Q : PV} {b : Bool} {v : V} (O : C.Ok) (S : StH C H s) (ho : H a = some (.inst ci fs)) (hx : attrIs i x) (hl : fs.lookup i = some v) (q : Q v H) :
    wpAny C.M A (getAttr (.ref a) x b) (PE C H s Q) NoE s := by
  refine absG fun Cg hCg => ?_
  obtain ⟨Ca, d, es, n, hc, e1, e2, r⟩ := S.rep _ _ ho
  have K := O.cls _ _ hc
  obtain ⟨cd, hcd, hdict⟩ := any_some K.hd
  obtain ⟨en, f1, f2⟩ := find_field hx r hl
  have I : InstAt s.heap a (instObj Ca d) Ca (some { cls := .type "dict", data := .dict es n }) := ⟨e1, rfl, rfl, e2⟩
  refine hCg ?_; clear hCg
  refine get_value (S.X O) I K.ga (v := en.val) ?_ (handed_rep f2) (PE.here S f2 q _)
  unfold findObj
  rw [hcd, Option.bind_some, K.ats _ _ hx]
  simp only [Option.bind_some]
  have : W.ownOf cd (some { cls := .type "dict", data := .dict es n }) x = some (some en.val) := by
    unfold W.ownOf lookIn
    rw [if_pos hdict]
    dsimp only
    rw [f1]
  rw [this]; rfl
theorem setAttr_ok {Q : Heap → Prop} {pv : Value} {v : V} (O : C.Ok) (S : StH C H s) (ho : H a = some (.inst ci fs)) (hx : attrIs i x) (hv : RepV pv v) (hn : fs.length ≤ 100) (q : Q (H.upd a (.inst ci (setF fs i v)))) :
    wpAny C.M A (setAttr (.ref a) x pv) (fun _ s' => ∃ H', StH C H' s' ∧ Ext H s.heap H' s'.heap ∧ Q H') NoE s := by
  refine absG fun Cg hCg => ?_
  obtain ⟨Ca, d, es, n, hc, e1, e2, r⟩ := S.rep _ _ ho
  have K := O.cls _ _ hc
  obtain ⟨cd, hcd, hdict⟩ := any_some K.hd
  have I : InstAt s.heap a (instObj Ca d) Ca (some { cls := .type "dict", data := .dict es n }) := ⟨e1, rfl, rfl, e2⟩
  have XX := S.X O
  refine hCg ?_; clear hCg
  refine set_plain XX I K.sa ?_
  refine osa_open (s := { s with toks := s.toks + 1 }) (show C.K.In s.heap from S.X O) I K.pl (r := none) (by unfold takerIn; rw [K.ats _ _ hx]; rfl) fun b => ?_
  have D : ({ s with toks := s.toks + 1 } : Shared).heap.get? d = some { cls := .type "dict", data := .dict es n } := e2
  have hp := put_field (hs := PyData.keyHash C.w.params x) (tk := s.toks + 1) hx hv r
  generalize hq : nsPutIn x.cps.size x.cps.toList (putF (PyData.keyHash C.w.params x) (.str x (s.toks + 1)) pv) es.toList = pr at hp
  obtain ⟨es', added⟩ := pr
  have hput : Obj.putName x (PyData.keyHash C.w.params x) (.str x (s.toks + 1)) pv { cls := .type "dict", data := .dict es n } = { cls := .type "dict", data := .dict es'.toArray (if added then n + 1 else n) } := by
    show (match nsPutIn x.cps.size x.cps.toList (putF (PyData.keyHash C.w.params x) (.str x (s.toks + 1)) pv) es.toList with
      | (es', false) => (⟨.type "dict", none, .dict es'.toArray n, #[]⟩ : Obj)
      | (es', true) => ⟨.type "dict", none, .dict es'.toArray (n + 1), #[]⟩) = _
    rw [hq]
    cases added <;> rfl
  have hlen : es'.length ≤ 101 := by
    rw [hp.length]
    have : ∀ fs : List (Nat × V), (setF fs i v).length ≤ fs.length + 1 := by
      intro fs
      induction fs with
      | nil => exact Nat.le_refl _
      | cons p r ih =>
        unfold setF
        split
        · exact Nat.le_succ _
        · exact Nat.succ_le_succ ih
    exact Nat.le_trans (this fs) (by (first | lia | omega))
  have U := S.field (f := Obj.putName x (PyData.keyHash C.w.params x) (.str x (s.toks + 1)) pv) (tk := s.toks + 1 + 1) (fs' := setF fs i v) ho e1 rfl (fun o z => by rw [e2] at z; cases z; rw [hput]; rfl)
    ⟨Ca, d, es'.toArray, _, hc, (Heap.get?_update_other _ _ (fun z => by have := S.hid d ⟨a, ci, fs, _, ho, e1, rfl⟩; rw [z, ho] at this; cases this)).trans e1, by rw [Heap.get?_update_self _ e2 (by rw [hput]; rfl), hput], by simpa using hp⟩
  refine wpAny_bind (wpAny_pure (wpAny_bind (wpAny_bind (wpAny_loadPart e1 (wpAny_bind ((looks_clsIn (h := ({ s with toks := s.toks + 1 } : Shared).heap) XX hcd).here ?_))))))
  rw [hdict]
  refine wpAny_pure (a := some d) (wpAny_bind (wpAny_pure (wpAny_bind ?_)))
  unfold nsSet
  refine wpAny_bind (wpAny_bind (wpAny_askSetting (wpAny_pure (wpAny_bind (wpAny_mkText (wpAny_bind (wpAny_loadPart D ?_)))))))
  dsimp only
  have hnr : es.any (·.refKey) = false := by rw [← Array.any_toList]; exact no_refKey r
  rw [aRefKeyMayBeTheName_at, hnr, Bool.and_false]
  refine wpAny_updatePart D ?_
  have hup : (s.heap.update d (Obj.putName x (PyData.keyHash C.w.params x) (.str x (s.toks + 1)) pv)).get? d = some { cls := .type "dict", data := .dict es'.toArray (if added then n + 1 else n) } := by
    rw [Heap.get?_update_self _ e2 (by rw [hput]; rfl), hput]
  refine wpAny_bind (wpAny_lookBehind (o := { cls := .type "dict", data := .dict es'.toArray (if added then n + 1 else n) }) hup (pastItsLine_dict (by rw [List.size_toArray, sizeLine_eq]; (first | lia | omega))) ?_)
  exact wpAny_pure ⟨_, U.1, U.2, q⟩
end
end ML
namespace ML
open PySem PySem.W PySem.Calls PyProof.Rows
variable {C : Cfg} {Φ : Orac} {c : Ctx} {H H' H'' H1 : Heap} {s s' s1 : Shared} {h h' h'' : PHeap} {A : Around} {env : Env} {m : Loc}
theorem idx_ok {o i : Value} {x y : V} {Q : V → Prop} {value slice : Expr} (S : StH C H s) (ho : RepV o x) (hi : RepV i y) (hw : idxW x y H Q)
    (hs : ∀ o i, subscripted slice false o i = operate [o, i] (getItem o i)) : wpAny C.M A (subscriptTail value slice o i) (PE C H s fun v H' => H' = H ∧ Q v) NoE s := by
  unfold idxW at hw
  split at hw
  · rename_i p k
    cases ho.ref
    obtain ⟨t, rfl⟩ := hi.int
    split at hw
    · rename_i ob hp
      have r := S.rep _ _ hp
      cases ob with
      | list ys =>
        obtain ⟨h0, h1, xs, v, e1, e2, q⟩ := hw
        have hk : k < 2 ^ 63 := Int.lt_trans h1 (by decide)
        cases e1
        obtain ⟨vs, n, l, rr, _⟩ := r
        obtain ⟨pv, e3, e4⟩ := rr.get e2
        exact tail_any l.isList.typeIs slot_list_getitem.lookup (wpAny_getItem_list l.isList h0 hk (by simpa using e3) (PE.at S e4 ⟨rfl, q⟩)) (hs _ _)
      | ro ys =>
        obtain ⟨h0, h1, xs, v, e1, e2, q⟩ := hw
        have hk : k < 2 ^ 63 := Int.lt_trans h1 (by decide)
        cases e1
        obtain ⟨vs, l, rr, _⟩ := r
        obtain ⟨pv, e3, e4⟩ := rr.get e2
        exact tail_any l.typeIs slot_list_getitem.lookup (wpAny_getItem_list l h0 hk (by simpa using e3) (PE.at S e4 ⟨rfl, q⟩)) (hs _ _)
      | tup ys =>
        obtain ⟨h0, h1, xs, v, e1, e2, q⟩ := hw
        have hk : k < 2 ^ 63 := Int.lt_trans h1 (by decide)
        cases e1
        obtain ⟨vs, l, rr, _⟩ := r
        obtain ⟨pv, e3, e4⟩ := rr.get e2
        have hj : seqIndex? k vs.length = some k.toNat := by
          have : k.toNat < vs.length := by
            cases hz : decide (k.toNat < vs.length) with
            | true => exact of_decide_eq_true hz
            | false => rw [List.getElem?_eq_none (by have := of_decide_eq_false hz; (first | lia | omega))] at e3; cases e3
          unfold seqIndex?
          have hk0 : ¬ k < 0 := by (first | lia | omega)
          have hk1 : (decide (0 ≤ k) && decide (k < (vs.length : Int))) = true := by rw [decide_eq_true h0, Bool.true_and]; exact decide_eq_true (by (first | lia | omega))
          simp only [hk0, if_false]
          rw [if_pos hk1]
        exact tail_any l.typeIs slot_tuple_getitem.lookup (getItem_tuple l (by (first | lia | omega)) hk (by simpa using hj) (by simpa using e3) (PE.at S e4 ⟨rfl, q⟩)) (hs _ _)
      | inst => obtain ⟨_, _, _, _, e1, _⟩ := hw; cases e1
      | rng => obtain ⟨_, _, _, _, e1, _⟩ := hw; cases e1
      | dict es =>
        exact r.elim
    · exact hw.elim
  · exact hw.elim
theorem cl_nat (n L : Nat) : max 0 (min (n : Int) (L : Int)) = ((min n L : Nat) : Int) := by
  rcases Nat.le_total n L with h | h
  · rw [Nat.min_eq_left h, Int.min_eq_left (Int.ofNat_le.mpr h), Int.max_eq_right (Int.natCast_nonneg _)]
  · rw [Nat.min_eq_right h, Int.min_eq_right (Int.ofNat_le.mpr h), Int.max_eq_right (Int.natCast_nonneg _)]
theorem drop_min {α : Type} {l : List α} {n : Nat} : l.drop (min n l.length) = l.drop n := by
  rcases Nat.le_total n l.length with h | h
  · rw [Nat.min_eq_left h]
  · rw [Nat.min_eq_right h, List.drop_eq_nil_of_le (Nat.le_refl _), List.drop_eq_nil_of_le h]
theorem pick_cut (items : List Value) (lo hi : Option Int) (h1 : nonneg? lo) (h2 : nonneg? hi) : slicePick items.toArray lo hi none = (cut items lo hi).toArray := by
  have key : ∀ (a b : Nat), sliceBounds lo hi none items.length = ((a : Int), (b : Int), 1) → slicePick items.toArray lo hi none = ((items.drop a).take (b - a)).toArray := by
    intro a b e
    unfold slicePick
    rw [show items.toArray.size = items.length by simp, e]
    simp only [sliceRange_one, pick_run]
  have ng : ∀ n : Nat, ¬ (n : Int) < 0 := fun n => Int.not_lt.mpr (Int.natCast_nonneg n)
  cases lo with
  | none =>
    cases hi with
    | none => rw [slicePick_all]; rfl
    | some j =>
      obtain ⟨m, rfl⟩ := Int.eq_ofNat_of_zero_le (show 0 ≤ j from h2)
      rw [key 0 (min m items.length) (by simp only [sliceBounds, Option.getD_none, ng, if_false, show (1 : Int) > 0 by decide, if_true, cl_nat]; rfl)]
      rw [List.drop_zero, Nat.sub_zero, ← List.take_eq_take_min]; rfl
  | some i =>
    obtain ⟨n, rfl⟩ := Int.eq_ofNat_of_zero_le (show 0 ≤ i from h1)
    cases hi with
    | none =>
      rw [key (min n items.length) items.length (by simp only [sliceBounds, Option.getD_none, ng, if_false, show (1 : Int) > 0 by decide, if_true, cl_nat])]
      rw [List.take_of_length_le (by rw [List.length_drop]; exact Nat.le_refl _), drop_min]; rfl
    | some j =>
      obtain ⟨m, rfl⟩ := Int.eq_ofNat_of_zero_le (show 0 ≤ j from h2)
      rw [key (min n items.length) (min m items.length) (by simp only [sliceBounds, Option.getD_none, ng, if_false, show (1 : Int) > 0 by decide, if_true, cl_nat])]
      show _ = ((items.take m).drop n).toArray
      rw [List.drop_take, drop_min]
      rcases Nat.le_total n items.length with h | h
      · rw [Nat.min_eq_left h, ← Nat.sub_min_sub_right, ← List.length_drop, ← List.take_eq_take_min]
      · rw [List.drop_eq_nil_of_le h, List.take_nil, List.take_nil]
theorem cut_len {α : Type} (xs : List α) (lo hi : Option Int) : (cut xs lo hi).length ≤ xs.length := by
  unfold ML.cut
  cases lo <;> cases hi <;> dsimp only
  · exact Nat.le_refl _
  · rw [List.length_take]; exact Nat.min_le_right _ _
  · rw [List.length_drop]; exact Nat.sub_le _ _
  · rw [List.length_drop, List.length_take]; exact Nat.le_trans (Nat.sub_le _ _) (Nat.min_le_right _ _)
theorem All2.cut {α β : Type} {R : α → β → Prop} {l : List α} {m : List β} (r : All2 R l m) (lo hi : Option Int) : All2 R (cut l lo hi) (cut m lo hi) := by
  unfold ML.cut
  cases lo <;> cases hi <;> dsimp only <;> first | exact r | exact r.take _ | exact r.drop _ | exact (r.take _).drop _
theorem slice_ok {value : Expr} {lo hi : Option Expr} {p pos : Pos} {mo : E} {ml mh : Option E} {Q : PV} {f : Expr → Option E} (hf : ∀ e me, f e = some me → SndE C Φ c e me) (hv : SndE C Φ c value mo) (hl : trO f lo = some ml) (hh : trO f hi = some mh)
    (a : At C c env A m H s) (hw : wpE Φ (.slice mo ml mh) m H Q) : wpAny C.M A (eval (.Subscript value (.Slice lo hi none p) pos) env) (PE C H s Q) NoE s := by
  have part : ∀ {x : Option Expr} {mx : Option E} {H : Heap} {s : Shared} {Q : Option V → Heap → Prop} {R : Value → Shared → Prop}, trO f x = some mx → At C c env A m H s → wpO Φ mx m H Q →
      (∀ v s1 ov H1, (match ov with | some y => RepV v y | none => v = .none) → At C c env A m H1 s1 → Ext H s.heap H1 s1.heap → Q ov H1 → R v s1) → wpAny C.M A (evalPart x env) R NoE s := by
    intro x mx H s Q R ht a hw k
    cases x with
    | none =>
      cases ht
      simp only [w_onone, w_osome] at hw
      rw [evalPart_none]
      exact wpAny_pure (k .none s none H rfl a Ext.refl hw)
    | some e =>
      obtain ⟨me, e1, rfl⟩ := Option.map_eq_some_iff.mp ht
      simp only [w_onone, w_osome] at hw
      rw [evalPart_some]
      exact SndE.then (hf _ _ e1) a hw fun v s1 x H1 r a1 x1 q => k v s1 (some x) H1 r a1 x1 q
  simp only [w_var, w_lit, w_bop, w_neg, w_cmp, w_cmp2, w_and, w_or, w_not, w_call, w_meth, w_new, w_prim, w_attr, w_idx, w_slice, w_list, w_tup, w_comp] at hw
  refine Subscript_ (hv.then a hw fun o s1 x H1 r1 a1 x1 q1 => wpAny_Slice (part hl a1 q1 fun l s2 ol H2 r2 a2 x2 q2 => part hh a2 q2 fun u s3 ou H3 r3 a3 x3 q3 => ?_))
  rw [evalPart_none]
  refine wpAny_pure ?_
  have isPart : ∀ {v : Value} {ov : Option V} {k : Option Int}, (match ov with | some y => RepV v y | none => v = .none) → part? ov = some k → IsPart v k := by
    intro v ov k r e
    cases ov with
    | none => cases e; cases (show v = .none from r); exact .none
    | some y =>
      cases y with
      | int i => cases e; obtain ⟨t, rfl⟩ := RepV.int r; exact .int i t
      | _ => cases e
  unfold sliceW at q3
  split at q3
  · rename_i pp lk hk e1 e2
    cases r1.ref
    obtain ⟨S4, x4⟩ := a3.S.push { cls := .type "slice", data := .fields #[l, u, .none] } s3.toks
    have xx := (x1.trans x2).trans (x3.trans x4)
    have hsl : ∀ o i : Value, subscripted (.Slice lo hi none p) false o i = operate [i, o] (getItem o i) := fun _ _ => rfl
    have fin : ∀ {vs : List Value} {xs : List V}, nonneg? lk → nonneg? hk → xs.length ≤ lim → allocW (.list (cut xs lk hk)) H3 Q → s3.heap.IsList pp vs.toArray → All2 RepV vs xs → wpAny C.M A (subscriptTail value (.Slice lo hi none p) (.ref pp) (.ref s3.heap.objs.size)) (PE C H s Q) NoE
        { s3 with heap := s3.heap.push { cls := .type "slice", data := .fields #[l, u, .none] } } := by
      intro vs xs n1 n2 hz q hl rr
      refine tail_any (hl.push _).typeIs slot_list_getitem.lookup (wpAny_getItem_list_slice (hl.push _) (Heap.IsSliceOf.new ..) (isPart r2 e1) (isPart r3 e2) .none (by simp) ?_ (by simp only [List.size_toArray, rr.length]; exact sizeLine_lim hz)) (hsl _ _)
      rw [pick_cut _ _ _ n1 n2]
      exact PE.ext xx (PE.list S4 (rr.cut _ _) (Nat.le_trans (cut_len _ _ _) (by (first | lia | omega))) q)
    cases hp : H3 pp with
    | none => rw [hp] at q3; exact q3.elim
    | some ob =>
      rw [hp] at q3
      have r := a3.S.rep _ _ hp
      cases ob with
      | list ys => obtain ⟨n1, n2, xs, e, hz, q⟩ := q3; cases e; obtain ⟨vs, n, l', rr, _⟩ := r; exact fin n1 n2 hz q l'.isList rr
      | ro ys => obtain ⟨n1, n2, xs, e, hz, q⟩ := q3; cases e; obtain ⟨vs, l', rr, _⟩ := r; exact fin n1 n2 hz q l' rr
      | _ => obtain ⟨_, _, xs, e, _⟩ := q3; cases e
  · exact q3.elim
end ML
namespace ML
open PySem PySem.W PySem.Calls PyProof.Rows
variable {C : Cfg} {Φ : Orac} {c : Ctx} {H H' H'' H1 : Heap} {s s' s1 : Shared} {h h' h'' : PHeap} {A : Around} {env : Env} {m : Loc}
noncomputable def CR (C : Cfg) (H : Heap) (s : Shared) (Q : PV) : Result → Shared → Prop := fun r s' => ∃ v, r = .ok (.ret v) ∧ PE C H s Q v s'
noncomputable def phi (C : Cfg) : Orac := fun f vs H Q => ∀ (A : Around) (s : Shared) (pvs : List Value) (l : Nat) (fa : Addr), C.tab.lv.lookup f = some l → C.fnA.lookup f = some fa → A.handled = none → A.depth + 4 * l + 3 ≤ 900 → A.units + 20 * l + 10 ≤ 9000 → StH C H s → All2 RepV pvs vs →
  codeAny C.M A (.call (.ref fa) ⟨pvs, []⟩) (CR C H s Q) s
theorem AOk.le {n k : Nat} (a : AOk A n) (h : k ≤ n) : AOk A k := ⟨a.hd, by have := a.dp; (first | lia | omega), by have := a.un; (first | lia | omega)⟩
theorem star_each {e : Expr} {es : List Expr} (h : isStar e = false) : starEach (e :: es) env = (false, eval e env) :: starEach es env := by cases e <;> first | rfl | cases h
theorem args_ok {es : List Expr} {mes : List E} {pos : Pos} {f : Value} {Q : List V → Heap → Prop} (hs : es.any isStar = false) (h : SndEs C Φ c es mes) (a : At C c env A m H s) (hw : wpEs Φ mes m H Q) :
    wpAny C.M A (evalArgs f true (backTo pos (starEach es env)) []) (fun x s1 => x.kw = [] ∧ PEs C es.length H s Q x.pos s1) NoE s := by
  have hh := h (pos := pos) a hw
  cases es with
  | nil =>
    unfold evalArgs
    show wpAny C.M A (spliced [] >>= _) _ _ s
    refine wpAny_bind (wpAny_ext hh fun vs s1 z => ?_)
    refine wpAny_holding ?_
    exact wpAny_bind (wpAny_pure (wpAny_bind (wpAny_pure (wpAny_pure ⟨rfl, z⟩))))
  | cons e es =>
    have he : starEach (e :: es) env = (false, eval e env) :: starEach es env := by
      simp only [List.any_cons, Bool.or_eq_false_iff] at hs
      exact star_each hs.1
    rw [he] at hh ⊢
    exact evalArgs_plain (wpAny_ext hh fun vs s1 z => ⟨rfl, z⟩)
theorem any_star {pos : Pos} : ∀ {es : List Expr}, es.any isStar = false → (backTo pos (starEach es env)).any (·.1) = false
  | [], _ => rfl
  | e :: es, hs => by
    simp only [List.any_cons, Bool.or_eq_false_iff] at hs
    have he : starEach (e :: es) env = (false, eval e env) :: starEach es env := star_each hs.1
    rw [he]
    show (false || (backTo pos (starEach es env)).any (·.1)) = false
    rw [any_star hs.2]; rfl
theorem glob_ok {x : Str} {pos : Pos} {v : Value} {R : Value → Shared → Prop} (O : C.Ok) (a : At C c env A m H s) (hx : c.isGlob x = true) (hd : (x == ("__debug__" : Str)) = false) (e : nsIn C.K mainGlobals x = some (some v)) (k : R v s) :
    wpAny C.M A (eval (.Name x pos) env) R NoE s := by
  have T := O.T.keeps a.S.base
  have hk : c.kinds.lookup x = some .globalImplicit := by simpa [Ctx.isGlob] using hx
  exact Name_function_global a.eo.kind (a.eo.kglob _ hk) (loadGlobal_global (env := env) (a.eo.glob ▸ T.g) (mg_of O.X O.T.g e) k) hd
theorem blt_ok {x : Str} {pos : Pos} {v : Value} {R : Value → Shared → Prop} (O : C.Ok) (a : At C c env A m H s) (hx : c.isGlob x = true) (hd : (x == ("__debug__" : Str)) = false) (e : nsIn C.K mainGlobals x = some none) (hv : bootBuiltins x = some v) (hn : x ≠ "__name__") (k : R v s) :
    wpAny C.M A (eval (.Name x pos) env) R NoE s := by
  have T := O.T.keeps a.S.base
  have hk : c.kinds.lookup x = some .globalImplicit := by simpa [Ctx.isGlob] using hx
  exact Name_function_global a.eo.kind (a.eo.kglob _ hk) (loadGlobal_builtin (env := env) (a.eo.glob ▸ T.g) (mg_none_of O.X O.T.g e) (a.eo.blts ▸ T.b) ((O.T.builtins x hn).trans hv) k) hd
theorem keep_fn {fa : Addr} (h : fnIn C.K fa = true) : keepIn C.K (.ref fa) = true := by
  unfold fnIn at h
  unfold keepIn
  split at h
  · rename_i e; simp only [e]
  · cases h
theorem call_ok {x : Str} {p pos : Pos} {es : List Expr} {mes : List E} {f l : Nat} {Q : PV} (O : C.Ok) (hs : es.any isStar = false) (h : SndEs C (phi C) c es mes) (hx : c.isGlob x = true) (hd : (x == ("__debug__" : Str)) = false)
    (e : C.tab.fns.lookup x = some f) (hl : C.tab.lv.lookup f = some l) (hlt : l < c.top)
    (a : At C c env A m H s) (hw : wpE (phi C) (.call f mes) m H Q) : wpAny C.M A (eval (.Call (.Name x p) es [] pos) env) (PE C H s Q) NoE s := by
  simp only [w_var, w_lit, w_bop, w_neg, w_cmp, w_cmp2, w_and, w_or, w_not, w_call, w_meth, w_new, w_prim, w_attr, w_idx, w_slice, w_list, w_tup, w_comp] at hw
  obtain ⟨fa, hf⟩ := O.have_ _ _ hl
  refine wpAny_Call_NameR (glob_ok O a hx hd (O.fns _ _ _ e hf) ?_)
  refine callWith_of (P := C.K.In) (by rw [any_star hs]; rfl) (keeps_K (keep_fn (O.keep _ _ hf))) (wpAny_ext (args_ok hs h a hw) fun x s1 z => ?_)
  refine absG fun Cg hCg => ?_
  obtain ⟨hkw, xs, H1, _, r, S1, x1, q⟩ := z
  refine hCg ?_; clear hCg
  rw [hkw]
  refine ⟨S1.X O, ?_⟩
  exact wpAny_call (codeAny_mono (q A s1 x.pos l fa hl hf a.ao.hd (by have := a.ao.dp; (first | lia | omega)) (by have := a.ao.un; (first | lia | omega)) S1 r) fun r s2 z => by
    refine absG fun Cg hCg => ?_
    obtain ⟨v, rfl, z⟩ := z
    refine hCg ?_; clear hCg
    exact PE.ext x1 z)
theorem base_of {o : Expr} {name : Str} {w : Sem Value} (h : bareCall o = false) : attributeBase o name env w = w := by
  cases o with
  | Call f args kws p => cases f with
    | Name x q => cases args with
      | nil => cases kws with
        | nil => cases h
        | cons _ _ => rfl
      | cons _ _ => rfl
    | _ => rfl
  | _ => rfl
theorem meth_ok {o : Expr} {x : Str} {ap pos : Pos} {es : List Expr} {mo : E} {mes : List E} {f l : Nat} {Q : PV} (O : C.Ok) (hb : bareCall o = false) (hline : (ap.endLine == pos.line) = true) (hs : es.any isStar = false) (hn : es.length ≤ 20) (ho : SndE C (phi C) c o mo) (h : SndEs C (phi C) c es mes)
    (e : C.tab.mts.lookup x = some f) (hl : C.tab.lv.lookup f = some l) (hlt : l < c.top)
    (a : At C c env A m H s) (hw : wpE (phi C) (.meth f mo mes) m H Q) : wpAny C.M A (eval (.Call (.Attribute o x ap) es [] pos) env) (PE C H s Q) NoE s := by
  simp only [w_var, w_lit, w_bop, w_neg, w_cmp, w_cmp2, w_and, w_or, w_not, w_call, w_meth, w_new, w_prim, w_attr, w_idx, w_slice, w_list, w_tup, w_comp] at hw
  obtain ⟨fa, hf⟩ := O.have_ _ _ hl
  rw [arm_eval_Call, base_of hb]
  refine wpAny_bind (ho.then a hw fun ov s1 xo H1 r1 a1 x1 q1 => wpAny_bind (wpAny_standAt ?_))
  obtain ⟨hi, q1⟩ := q1
  cases xo with
  | ref p =>
    cases r1.ref
    unfold isInst at hi
    dsimp only at hi
    split at hi
    · rename_i ci fs hp
      subst hi
      refine absG fun Cg hCg => ?_
      obtain ⟨Ca, d, ents, n, hc, e1, e2, r⟩ := a1.S.rep _ _ hp
      have K := O.cls _ _ hc
      have MO := O.mts _ _ _ _ e hf hc
      have I : W.InstAt s1.heap p (instObj Ca d) Ca (some { cls := .type "dict", data := .dict ents n }) := ⟨e1, rfl, rfl, e2⟩
      refine hCg ?_; clear hCg
      have hform : methodCallForm (es.length + ([] : List Keyword).length) (backTo pos (starEach es env)) (backToKw pos (keywordEach [] env)) = true := by
        unfold methodCallForm
        have : (backTo pos (starEach es env)).all (fun x => !x.1) = true := by
          have := any_star (env := env) (pos := pos) hs
          rw [List.any_eq_false] at this
          rw [List.all_eq_true]
          intro y hy
          simpa using this y hy
        rw [this]
        show (true && true && decide (es.length + 0 + 0 < 30)) = true
        simp; (first | lia | omega)
      have hpos : methodCallPos true o env ap pos = pure pos := by unfold methodCallPos; simp [hline]
      unfold methodCall
      rw [hform]
      refine wpAny_bind (wpAny_holding (method_fn (a1.S.X O) I K.ga K.gt MO.find MO.fn ?_ ?_))
      · unfold shadowIn lookIn
        dsimp only
        rw [find_none MO.no r, no_refKey r]
        rfl
      · refine wpAny_bind (wpAny_of_eq hpos ?_)
        refine callWith_of (P := C.K.In) (by rw [any_star hs]; rfl) (keeps_K (keep_fn (O.keep _ _ hf))) (wpAny_ext (args_ok hs h a1 q1) fun x s2 z => ?_)
        refine absG fun Cg hCg => ?_
        obtain ⟨hkw, xs, H2, _, r2, S2, x2, q2⟩ := z
        refine hCg ?_; clear hCg
        rw [hkw]
        refine ⟨S2.X O, ?_⟩
        exact wpAny_call (codeAny_mono (q2 A s2 (.ref p :: x.pos) l fa hl hf a.ao.hd (by have := a.ao.dp; (first | lia | omega)) (by have := a.ao.un; (first | lia | omega)) S2 (.cons rfl r2)) fun r s3 z => by
          refine absG fun Cg hCg => ?_
          obtain ⟨v, rfl, z⟩ := z
          refine hCg ?_; clear hCg
          exact PE.ext (x1.trans x2) z)
    · exact hi.elim
  | _ => exact hi.elim
theorem weight_make {Ca : Addr} {vs : List Value} : (Code.builtin "type.__call__" ⟨.ref Ca :: vs, []⟩).weight = 1 := by
  show _ + _ + _ + _ = _
  rfl
theorem units_make {Ca : Addr} {vs : List Value} : (Code.builtin "type.__call__" ⟨.ref Ca :: vs, []⟩).cUnits = 1 := rfl
theorem new_ok {x : Str} {p pos : Pos} {es : List Expr} {mes : List E} {ci l : Nat} {Ca : Addr} {Q : PV} (O : C.Ok) (hs : es.any isStar = false) (h : SndEs C (phi C) c es mes) (hx : c.isGlob x = true) (hd : (x == ("__debug__" : Str)) = false)
    (e : C.tab.cls.lookup x = some ci) (hc : C.clsA.lookup ci = some Ca) (hl : C.tab.lv.lookup ci = some l) (hlt : l < c.top)
    (a : At C c env A m H s) (hw : wpE (phi C) (.new ci mes) m H Q) : wpAny C.M A (eval (.Call (.Name x p) es [] pos) env) (PE C H s Q) NoE s := by
  simp only [w_var, w_lit, w_bop, w_neg, w_cmp, w_cmp2, w_and, w_or, w_not, w_call, w_meth, w_new, w_prim, w_attr, w_idx, w_slice, w_list, w_tup, w_comp] at hw
  obtain ⟨fa, hf⟩ := O.have_ _ _ hl
  have K := O.cls _ _ hc
  obtain ⟨hi1, hi2⟩ := O.inits _ _ _ hc hf
  have hkeep : keepIn C.K (.ref Ca) = true := by
    have := K.makes
    unfold makesIn at this
    unfold keepIn
    split at this
    · rename_i q
      simp only [Bool.and_eq_true] at this
      simp only [q]
      exact this.1.2
    · cases this
  refine wpAny_Call_NameR (glob_ok O a hx hd (O.clsN _ _ _ e hc) ?_)
  refine callWith_of (P := C.K.In) (by rw [any_star hs]; rfl) (keeps_K hkeep) (wpAny_ext (args_ok hs h a hw) fun x s1 z => ?_)
  refine absG fun Cg hCg => ?_
  obtain ⟨hkw, xs, H1, _, r, S1, x1, q⟩ := z
  refine hCg ?_; clear hCg
  rw [hkw]
  have X1 := S1.X O
  refine ⟨X1, wpAny_call ?_⟩
  have mkS := S1.make (tk := s1.toks) hc
  have q' := q (s1.heap.objs.size + 1) (by
    cases z : H1 (s1.heap.objs.size + 1) with
    | none => rfl
    | some o => obtain ⟨ob, lk⟩ := (S1.rep _ _ z).look; exact absurd (Heap.lt_size lk) (Nat.not_lt.mpr (Nat.le_succ _)))
  refine absG fun Cg hCg => ?_
  obtain ⟨hh, g, dr, t, os⟩ := s1
  refine hCg ?_; clear hCg
  refine make_core (makes_of X1 K.makes) (looks_findIn X1 hi1) (fun self => bind_fn X1 self hi2) (.inl rfl) ?_
  have A' := q' (A.under (.builtin "type.__call__" ⟨.ref Ca :: ([] ++ x.pos), []⟩)) ⟨(hh.push emptyDict).push (instObj Ca hh.objs.size), g, dr, t, os⟩ (.ref (hh.objs.size + 1) :: x.pos) l fa hl hf a.ao.hd
    (by show A.depth + _ + 4 * l + 3 ≤ 900; rw [weight_make]; have := a.ao.dp; (first | lia | omega)) (by show A.units + _ + 20 * l + 10 ≤ 9000; rw [units_make]; have := a.ao.un; (first | lia | omega)) mkS.1 (.cons rfl r)
  refine codeAny_mono A' fun r s2 z => ?_
  refine absG fun Cg hCg => ?_
  obtain ⟨v, rfl, mv, H2, rv, S2, x2, rfl, q2⟩ := z
  refine hCg ?_; clear hCg
  cases rv.none
  exact ⟨rfl, .ref _, H2, rfl, S2, (x1.trans mkS.2).trans x2, q2⟩
end ML
namespace ML
open PySem PySem.W PySem.Calls PyProof.Rows PySem.SeqAt
variable {C : Cfg} {Φ : Orac} {c : Ctx} {H H' H'' H1 : Heap} {s s' s1 : Shared} {h h' h'' : PHeap} {A : Around} {env : Env} {m : Loc}
noncomputable def strOf : Nat → Str
  | 0 => "put"
  | _ => "del"
mutual
noncomputable def toDat : D → Dat
  | .none => .none
  | .int i => .int i
  | .str k => .str (strOf k)
  | .list ds => .list (toDats ds)
  | .tup ds => .tuple (toDats ds)
noncomputable def toDats : List D → List Dat
  | [] => []
  | d :: ds => toDat d :: toDats ds
end
noncomputable def Sd : Nat → D → Prop
  | _, .none => True
  | _, .int _ => True
  | _, .str k => k < 2
  | n + 1, .list ds => ∀ d ∈ ds, Sd n d
  | n + 1, .tup ds => ∀ d ∈ ds, Sd n d
  | 0, _ => False
theorem toDat_inj : ∀ (n : Nat) (d e : D) (k : Nat), Sd n d → Sd k e → (toDat d = toDat e ↔ d = e) := by
  have all : ∀ (n : Nat), (∀ d e k, Sd n d → Sd k e → (toDat d = toDat e ↔ d = e)) → ∀ (k : Nat) (ds es : List D), (∀ d ∈ ds, Sd n d) → (∀ d ∈ es, Sd k d) → (toDats ds = toDats es ↔ ds = es) := by
    intro n ih k ds
    induction ds with
    | nil => intro es _ _; cases es <;> simp [toDats]
    | cons d ds hi =>
      intro es h1 h2
      cases es with
      | nil => simp [toDats]
      | cons e es =>
        have q1 := ih d e k (h1 d (.head _)) (h2 e (.head _))
        have q2 := hi es (fun x hx => h1 x (.tail _ hx)) fun x hx => h2 x (.tail _ hx)
        simp only [toDats, List.cons.injEq, q1, q2]
  have sInj : ∀ a b : Nat, a < 2 → b < 2 → (strOf a = strOf b ↔ a = b) := by
    intro a b ha hb
    rcases Nat.lt_or_ge a 1 with x | x <;> rcases Nat.lt_or_ge b 1 with y | y
    · have e1 : a = 0 := by (first | lia | omega)
      have e2 : b = 0 := by (first | lia | omega)
      subst e1 e2; simp
    · have e1 : a = 0 := by (first | lia | omega)
      have e2 : b = 1 := by (first | lia | omega)
      subst e1 e2; exact ⟨fun q => absurd q (by decide), fun q => by cases q⟩
    · have e1 : a = 1 := by (first | lia | omega)
      have e2 : b = 0 := by (first | lia | omega)
      subst e1 e2; exact ⟨fun q => absurd q (by decide), fun q => by cases q⟩
    · have e1 : a = 1 := by (first | lia | omega)
      have e2 : b = 1 := by (first | lia | omega)
      subst e1 e2; simp
  intro n
  induction n with
  | zero =>
    intro d e k h1 h2
    cases d with
    | list ds => exact h1.elim
    | tup ds => exact h1.elim
    | str a =>
      cases e with
      | str b =>
        have h2 : b < 2 := by cases k <;> exact h2
        simp only [toDat, Dat.str.injEq, D.str.injEq]; exact sInj a b h1 h2
      | _ => simp [toDat]
    | _ => cases e <;> simp [toDat]
  | succ n ih =>
    intro d e k h1 h2
    cases d with
    | list ds =>
      cases e with
      | list es =>
        cases k with
        | zero => exact h2.elim
        | succ k => simp only [toDat, Dat.list.injEq, D.list.injEq]; exact all n ih k ds es h1 h2
      | _ => simp [toDat]
    | tup ds =>
      cases e with
      | tup es =>
        cases k with
        | zero => exact h2.elim
        | succ k => simp only [toDat, Dat.tuple.injEq, D.tup.injEq]; exact all n ih k ds es h1 h2
      | _ => simp [toDat]
    | str a =>
      cases e with
      | str b =>
        have h2 : b < 2 := by cases k <;> exact h2
        simp only [toDat, Dat.str.injEq, D.str.injEq]; exact sInj a b h1 h2
      | _ => simp [toDat]
    | _ => cases e <;> simp [toDat]
structure RdOk (h : PHeap) (n : Nat) (v : Value) (d : D) : Prop where
  rd : ∃ as, Reads h v (kqdP (toDat d)) as
  ok : kqdOk n (toDat d) = true
  sd : Sd n d
theorem strIs.lt {k : Nat} {x : Str} (h : strIs k x) : k < 2 ∧ x = strOf k := by
  unfold strIs coreStrs at h
  simp only [List.lookup] at h
  split at h
  · rename_i q; cases h; exact ⟨by decide, beq_iff_eq.mp q⟩
  · split at h
    · rename_i q; cases h; exact ⟨by decide, beq_iff_eq.mp q⟩
    · cases h
theorem rda_ok {n : Nat} {v : Value} {x : V} {d : D} (r : RepV v x) (h : RdA x d) : RdOk s.heap n v d := by
  cases x with
  | none =>
    cases r.none
    cases d <;> first | exact h.elim | skip
    exact ⟨⟨_, Reads.none⟩, by cases n <;> rfl, by cases n <;> trivial⟩
  | int i =>
    obtain ⟨t, rfl⟩ := r.int
    cases d <;> first | exact h.elim | skip
    cases (show i = _ from h)
    exact ⟨⟨_, Reads.int i t⟩, by cases n <;> rfl, by cases n <;> trivial⟩
  | str k =>
    refine absG fun Cg hCg => ?_
    obtain ⟨x, t, rfl, hx⟩ := r.str
    refine hCg ?_; clear hCg
    cases d <;> first | exact h.elim | skip
    cases (show k = _ from h)
    obtain ⟨h1, rfl⟩ := hx.lt
    refine ⟨⟨_, by rw [toDat, kqdP]; exact Reads.str _ t⟩, ?_, by cases n <;> exact h1⟩
    have : PyData.strOk (strOf k) = true := by
      rcases Nat.lt_or_ge k 1 with x | x
      · have e : k = 0 := by (first | lia | omega)
        subst e; decide +kernel
      · have e : k = 1 := by (first | lia | omega)
        subst e; decide +kernel
    cases n <;> exact this
  | _ => cases d <;> exact h.elim
theorem rd_ok (S : StH C H s) : ∀ (n : Nat) {v : Value} {x : V} {d : D}, RepV v x → Rd H n x d → RdOk s.heap n v d := by
  intro n
  induction n with
  | zero => intro v x d r h; exact rda_ok r h
  | succ n ih =>
    have all : ∀ {vs : List Value} {xs : List V} {ds : List D}, All2 RepV vs xs → All2 (Rd H n) xs ds → (∃ as, ReadsAll s.heap vs (kqdPs (toDats ds)) as) ∧ (∀ d ∈ toDats ds, kqdOk n d = true) ∧ ∀ d ∈ ds, Sd n d := by
      intro vs xs ds r
      induction r generalizing ds with
      | nil => intro h; cases h; exact ⟨⟨_, by rw [toDats, kqdPs]; exact ReadsAll.nil⟩, fun _ h => (by simp [toDats] at h), fun _ h => (by cases h)⟩
      | cons a _ hi =>
        intro h
        cases h with
        | cons b bs =>
          refine absG fun Cg hCg => ?_
          obtain ⟨⟨as, h1⟩, h2, h3⟩ := ih a b
          obtain ⟨⟨as', h4⟩, h5, h6⟩ := hi bs
          refine hCg ?_; clear hCg
          refine ⟨⟨_, by rw [toDats, kqdPs]; exact ReadsAll.cons h1 h4⟩, fun d hd => ?_, fun d hd => ?_⟩
          · rw [toDats] at hd
            cases hd with
            | head => exact h2
            | tail _ hd => exact h5 d hd
          · cases hd with
            | head => exact h3
            | tail _ hd => exact h6 d hd
    intro v x d r h
    rcases h with h | ⟨a, o, xs, ds, rfl, ho, hl, rfl, h⟩ | ⟨a, xs, ds, rfl, ho, rfl, h⟩
    · exact rda_ok r h
    · cases r.ref
      have fin : ∀ {vs : List Value}, s.heap.IsList a vs.toArray → All2 RepV vs xs → RdOk s.heap (n + 1) (.ref a) (.list ds) := by
        intro vs l rr
        refine absG fun Cg hCg => ?_
        obtain ⟨⟨as, h1⟩, h2, h3⟩ := all rr h
        obtain ⟨ob, l1, l2, k, l3⟩ := l
        refine hCg ?_; clear hCg
        refine ⟨⟨_, by rw [toDat, kqdP]; exact reads_list_at l1 l2 l3 (by simpa using h1)⟩, ?_, h3⟩
        rw [toDat]; simpa [kqdOk] using h2
      have rr := S.rep _ _ ho
      cases o with
      | list ys => cases hl; obtain ⟨vs, k, l, q, _⟩ := rr; exact fin l.isList q
      | ro ys => cases hl; obtain ⟨vs, l, q, _⟩ := rr; exact fin l q
      | _ => cases hl
    · cases r.ref
      refine absG fun Cg hCg => ?_
      obtain ⟨vs, ⟨ob, l1, l2, k, l3⟩, rr, _⟩ := S.rep _ _ ho
      obtain ⟨⟨as, h1⟩, h2, h3⟩ := all rr h
      refine hCg ?_; clear hCg
      refine ⟨⟨_, by rw [toDat, kqdP]; exact reads_tuple_at l1 l2 l3 (by simpa using h1)⟩, ?_, h3⟩
      rw [toDat]; simpa [kqdOk] using h2
theorem rd_shaped {n : Nat} {v : Value} {d : D} (r : RdOk h n v d) (hn : n ≤ 8) : SeqAt.shaped (kqdP (toDat d)) = true := by
  have l := kqd_lay n _ r.ok
  unfold SeqAt.shaped; rw [l.1, Bool.true_and]; exact decide_eq_true (by have := l.2; (first | lia | omega))
theorem rd_eqv {n : Nat} {v w : Value} {d e : D} (r : RdOk h n v d) (q : RdOk h n w e) : PyData.eqv (kqdP (toDat d)) (kqdP (toDat e)) = true ↔ d = e :=
  (kqd_eqv n _ _ n r.ok q.ok).trans (toDat_inj n d e n r.sd q.sd)
theorem eq_ok {a b : Value} {x y : V} {Q : Bool → Prop} (S : StH C H s) (ha : RepV a x) (hb : RepV b y) (hu : A.units + 64 < cLine) (hw : eqW x y H Q) :
    wpAny C.M A (compareOp .Eq a b) (PB C H s Q) NoE s ∧ wpAny C.M A (compareOp .NotEq a b) (PB C H s fun r => Q (!r)) NoE s := by
  rcases hw with ⟨da, db, h1, h2, k⟩ | ⟨p, q, ps, rfl, rfl, h1, h2, k⟩
  · have r1 := rd_ok S _ ha h1
    have r2 := rd_ok S _ hb h2
    obtain ⟨as, rd1⟩ := r1.rd
    obtain ⟨bs, rd2⟩ := r2.rd
    have kk := k _ (rd_eqv r1 r2)
    exact ⟨eq_dataH rd1 rd2 (rd_shaped r1 (by decide)) (rd_shaped r2 (by decide)) hu (PB.at S kk), ne_dataH rd1 rd2 (rd_shaped r1 (by decide)) (rd_shaped r2 (by decide)) hu (PB.at S (by rw [Bool.not_not]; exact kk))⟩
  · cases ha.ref; cases hb.ref
    refine absG fun Cg hCg => ?_
    obtain ⟨vs, n, l1, rr1, _⟩ := S.rep _ _ h1
    obtain ⟨us, n', l2, rr2, _⟩ := S.rep _ _ h2
    refine hCg ?_; clear hCg
    have e : vs = us := by
      have key : ∀ {l : List Value} {zs : List Nat}, All2 RepV l (zs.map V.ref) → l = zs.map Value.ref := by
        intro l zs
        induction zs generalizing l with
        | nil => intro h; cases h; rfl
        | cons z zs ih => intro h; cases h with | cons a r => rw [List.map_cons, ← ih r]; rw [a.ref]
      rw [key rr1, key rr2]
    subst e
    have hu' : A.units < cLine := by (first | lia | omega)
    have al : ∀ n : Nat, (List.range n).all (fun _ => true) = true := fun n => by simp
    refine ⟨RcAt.lists (e := fun _ => true) l1.isList l2.isList rfl hu' (fun j h1 h2 => EqAt.same _) _ _ _ _ ?_, RcNeAt.lists (e := fun _ => true) l1.isList l2.isList rfl hu' (fun j h1 h2 => EqAt.same _) _ _ _ _ ?_⟩
    · rw [al]; exact PB.at S k
    · rw [al]; exact PB.at S (by simpa using k)
end ML
namespace ML
open PySem PySem.W PySem.Calls PyProof.Rows PySem.SeqAt
variable {C : Cfg} {Φ : Orac} {c : Ctx} {H H' H'' H1 : Heap} {s s' s1 : Shared} {h h' h'' : PHeap} {A : Around} {env : Env} {m : Loc}
theorem PB.ext {Q : Bool → Prop} {v : Value} {x : PB C H s Q v s'} : PB C H s Q v s' := x
theorem AOk.room {n : Nat} (a : AOk A n) : A.units + 64 < cLine := by have := a.un; show _ < 9900; (first | lia | omega)
theorem ord_get {f : Int → Int → Bool} {x y : V} {Q : Bool → Prop} (h : ordW f x y Q) : ∃ i j, x = .int i ∧ y = .int j ∧ Q (f i j) := int2_get h
theorem eqs_get {fi : Int → Int → Bool} {fb : Bool → Bool → Bool} {fs : Nat → Nat → Bool} {Fl : Int → UInt64 → Prop} {x y : V} {E : Prop} {Q : Bool → Prop} (h : eqsW fi fb fs Fl x y E Q) :
    E ∨ (∃ i j, x = .int i ∧ y = .int j ∧ Q (fi i j)) ∨ (∃ i j, x = .bool i ∧ y = .bool j ∧ Q (fb i j)) ∨ (∃ i j, x = .str i ∧ y = .str j ∧ Q (fs i j))
    := by
  cases x with
  | int i => cases y with
    | int j => exact .inr (.inl ⟨i, j, rfl, rfl, h⟩)
    | _ => exact .inl h
  | bool i => cases y with
    | bool j => exact .inr (.inr (.inl ⟨i, j, rfl, rfl, h⟩))
    | _ => exact .inl h
  | str i => cases y with
    | str j => exact .inr (.inr (.inr ⟨i, j, rfl, rfl, h⟩))
    | _ => exact .inl h
  | _ => exact .inl h
theorem str_same {z z' : Str} {i j : Nat} (hz : strIs i z) (hz' : strIs j z') : (z.cps.toList == z'.cps.toList) = decide (i = j) := by
  by_cases q : i = j
  · subst q; rw [hz.uniq hz']; simp
  · rw [decide_eq_false q]
    refine beq_eq_false_iff_ne.mpr fun w => q ?_
    have : z = z' := by cases z; cases z'; simp only [Str.mk.injEq]; exact Array.ext' w
    subst this; exact hz.inj hz'
theorem dec_ne (i j : Int) : (i != j) = decide (i ≠ j) := by by_cases q : i = j <;> simp [q]
theorem dec_eq (i j : Int) : (i == j) = decide (i = j) := by by_cases q : i = j <;> simp [q]
section
variable {a b : Value} {x y : V} {Q : Bool → Prop}
theorem cmp_lt (S : StH C H s) (ha : RepV a x) (hb : RepV b y) (hw : cmpW .lt x y H Q) : wpAny C.M A (compareOp .Lt a b) (PB C H s Q) NoE s := by
  obtain ⟨i, j, rfl, rfl, q⟩ := ord_get hw; obtain ⟨t, u, rfl, rfl⟩ := two_ints ha hb; exact P.lt_int (PB.at S q)
theorem cmp_le (S : StH C H s) (ha : RepV a x) (hb : RepV b y) (hw : cmpW .le x y H Q) : wpAny C.M A (compareOp .LtE a b) (PB C H s Q) NoE s := by
  obtain ⟨i, j, rfl, rfl, q⟩ := ord_get hw; obtain ⟨t, u, rfl, rfl⟩ := two_ints ha hb; exact P.le_int (PB.at S q)
theorem cmp_ge (S : StH C H s) (ha : RepV a x) (hb : RepV b y) (hw : cmpW .ge x y H Q) : wpAny C.M A (compareOp .GtE a b) (PB C H s Q) NoE s := by
  obtain ⟨i, j, rfl, rfl, q⟩ := ord_get hw; obtain ⟨t, u, rfl, rfl⟩ := two_ints ha hb; exact P.ge_int (PB.at S q)
theorem cmp_gt (S : StH C H s) (ha : RepV a x) (hb : RepV b y) (hw : cmpW .gt x y H Q) : wpAny C.M A (compareOp .Gt a b) (PB C H s Q) NoE s := by
  obtain ⟨i, j, rfl, rfl, q⟩ := ord_get hw; obtain ⟨t, u, rfl, rfl⟩ := two_ints ha hb; exact P.gt_int (PB.at S q)
theorem cmp_eq (S : StH C H s) (ha : RepV a x) (hb : RepV b y) (hu : A.units + 64 < cLine) (hw : cmpW .eq x y H Q) : wpAny C.M A (compareOp .Eq a b) (PB C H s Q) NoE s := by
  rcases eqs_get (Fl := fun _ _ => False) hw with q | ⟨i, j, rfl, rfl, q⟩ | ⟨i, j, rfl, rfl, q⟩ | ⟨i, j, rfl, rfl, q⟩
  · exact (eq_ok S ha hb hu q).1
  · obtain ⟨t, u, rfl, rfl⟩ := two_ints ha hb; exact P.eq_int (PB.at S (by rw [dec_eq]; exact q))
  · cases ha.bool; cases hb.bool
    exact RcAt.bool_bool i j _ _ _ _ (PB.at S (by rw [show (i == j) = decide (i = j) by cases i <;> cases j <;> rfl]; exact q))
  · obtain ⟨z, t, rfl, hz⟩ := ha.str; obtain ⟨z', u, rfl, hz'⟩ := hb.str
    exact P.eq_str (PB.at S (by rw [str_same hz hz']; exact q))
theorem cmp_ne (S : StH C H s) (ha : RepV a x) (hb : RepV b y) (hu : A.units + 64 < cLine) (hw : cmpW .ne x y H Q) : wpAny C.M A (compareOp .NotEq a b) (PB C H s Q) NoE s := by
  have fin : eqW x y H (fun r => Q (!r)) → wpAny C.M A (compareOp .NotEq a b) (PB C H s Q) NoE s := fun hw => wpAny_ext (eq_ok (A := A) (Q := fun r => Q (!r)) S ha hb hu hw).2 fun v s' ⟨r, e, z1, z2, z3⟩ => ⟨r, e, z1, z2, by have z3 : Q (!!r) := z3; rwa [Bool.not_not] at z3⟩
  rcases eqs_get (Fl := fun x b => eqW (.int x) (.flt b) H fun r => Q (!r)) hw with q | ⟨i, j, rfl, rfl, q⟩ | ⟨i, j, rfl, rfl, q⟩ | ⟨i, j, rfl, rfl, q⟩
  · exact fin q
  · obtain ⟨t, u, rfl, rfl⟩ := two_ints ha hb; exact P.ne_int (PB.at S (by rw [dec_ne]; exact q))
  · cases ha.bool; cases hb.bool
    exact RcNeAt.bool_bool i j _ _ _ _ (PB.at S (by rw [show (!(i == j)) = decide (i ≠ j) by cases i <;> cases j <;> rfl]; exact q))
  · obtain ⟨z, t, rfl, hz⟩ := ha.str; obtain ⟨z', u, rfl, hz'⟩ := hb.str
    refine P.ne_str (PB.at S ?_)
    have e : (z.cps.toList != z'.cps.toList) = decide (i ≠ j) := by
      rw [bne, str_same hz hz']; by_cases q : i = j <;> simp [q]
    rw [e]; exact q
end
theorem cmp_ok {op : CmpOp} {a b : Value} {x y : V} {Q : Bool → Prop} (S : StH C H s) (ha : RepV a x) (hb : RepV b y) (hu : A.units + 64 < cLine) (hw : cmpW (trCmp op) x y H Q) :
    wpAny C.M A (compareOp op a b) (PB C H s Q) NoE s := by
  cases op with
  | Is =>
    show wpAny C.M A (do return Value.bool (← isSame a b)) _ _ _
    exact wpAny_bind (wpAny_ext (is_ok S ha hb hw) fun r s' z => by obtain ⟨rfl, z⟩ := z; exact wpAny_pure (PB.at S z))
  | IsNot =>
    show wpAny C.M A (do return Value.bool (!(← isSame a b))) _ _ _
    exact wpAny_bind (wpAny_ext (is_ok (Q := fun r => Q (!r)) S ha hb hw) fun r s' z => by obtain ⟨rfl, z⟩ := z; exact wpAny_pure (PB.at S z))
  | In => exact hw.elim
  | NotIn => exact hw.elim
  | Lt => exact cmp_lt S ha hb hw
  | LtE => exact cmp_le S ha hb hw
  | Gt => exact cmp_gt S ha hb hw
  | GtE => exact cmp_ge S ha hb hw
  | Eq => exact cmp_eq S ha hb hu hw
  | NotEq => exact cmp_ne S ha hb hu hw
end ML
namespace ML
open PySem PySem.W PySem.Calls PyProof.Rows PySem.SeqAt
variable {C : Cfg} {Φ : Orac} {c : Ctx} {H H' H'' H1 : Heap} {s s' s1 s2 : Shared} {h h' h'' : PHeap} {A : Around} {env : Env} {m m' : Loc}
structure ExtS (env : Env) (H : Heap) (h : PHeap) (H' : Heap) (h' : PHeap) : Prop where
  keep : ∀ b o, h.get? b = some o → ¬ Fp H h b → b ≠ env.locals → (∀ x, env.cells.lookup x ≠ some b) → h'.get? b = some o
  alive : ∀ b, h'.get? b = none → h.get? b = none
  fresh : ∀ b, Fp H' h' b → Fp H h b ∨ h.get? b = none
  dom : ∀ b o, H' b = some o → (∃ o', H b = some o') ∨ h.get? b = none
theorem Ext.toS (x : Ext H h H' h') : ExtS env H h H' h' := ⟨fun b o e n _ _ => x.keep b o e n, x.alive, x.fresh, x.dom⟩
theorem ExtS.trans (x : ExtS env H h H' h') (y : ExtS env H' h' H'' h'') : ExtS env H h H'' h'' where
  keep b o e n l k := y.keep b o (x.keep b o e n l k) (fun f => (x.fresh b f).elim n fun z => by rw [z] at e; cases e) l k
  alive b e := x.alive b (y.alive b e)
  fresh b f := (y.fresh b f).elim (x.fresh b) fun z => .inr (x.alive b z)
  dom b o e := (y.dom b o e).elim (fun ⟨o', e'⟩ => x.dom b o' e') fun z => .inr (x.alive b z)
theorem ExtS.forget (x : ExtS env H h H' h') (l : H''.le H') : ExtS env H h H'' h' :=
  ⟨x.keep, x.alive, fun b f => x.fresh b (f.imp (fun ⟨y, e⟩ => ⟨y, l _ _ e⟩) fun f => f.imp (fun ⟨y, e⟩ => ⟨y, l _ _ e⟩) fun ⟨a, c, fs, o, e1, e2, e3⟩ => ⟨a, c, fs, o, l _ _ e1, e2, e3⟩), fun b o e => x.dom b o (l _ _ e)⟩
theorem EnvSt.forget (x : EnvSt C c env m H h) (l : H'.le H) : EnvSt C c env m H' h := by
  have hn : ∀ {b}, H b = none → H' b = none := fun {b} e => by
    cases q : H' b with
    | none => rfl
    | some o => rw [l _ _ q] at e; cases e
  have hh : ∀ {b}, ¬ Hid H h b → ¬ Hid H' h b := fun n ⟨a, c, fs, o, e1, e2, e3⟩ => n ⟨a, c, fs, o, l _ _ e1, e2, e3⟩
  exact ⟨x.len, x.ns, x.cells, ⟨hn x.apL.1, hh x.apL.2.1, x.apL.2.2⟩, fun y a e => let ⟨n1, n2, n3, n4⟩ := x.apC y a e; ⟨hn n1, hh n2, n3, n4⟩, x.injC⟩
theorem quiet_one (S : StH C H s) {b : Addr} (hb : H b = none ∧ ¬ Hid H s.heap b ∧ C.h₀.get? b = none) (hk : ∀ a, a ≠ b → s'.heap.get? a = s.heap.get? a) (ha : ∃ o, s'.heap.get? b = some o) (hg : s'.gens = s.gens) (hos : s'.os = s.os) :
    StH C H s' ∧ (∀ x, Hid H s'.heap x ↔ Hid H s.heap x) := by
  have S' : StH C H s' := S.quiet (fun a => a = b) (fun a o e n => (hk a n).trans e) (fun a e => by subst e; exact ⟨hb.1, hb.2.2, hb.2.1⟩) hg hos
  have ne : ∀ a c fs, H a = some (.inst c fs) → a ≠ b := fun a c fs e q => by rw [q, hb.1] at e; cases e
  exact ⟨S', fun x => ⟨fun ⟨a, c, fs, o, e1, e2, e3⟩ => ⟨a, c, fs, o, e1, (hk a (ne _ _ _ e1)) ▸ e2, e3⟩, fun ⟨a, c, fs, o, e1, e2, e3⟩ => ⟨a, c, fs, o, e1, (hk a (ne _ _ _ e1)).symm ▸ e2, e3⟩⟩⟩
theorem optRep_set {i j : Nat} {v : V} {ov : Option Value} (hl : i < m.length) (e : j ≠ i) (r : OptRep ov (m[j]?.join)) : OptRep ov ((m.set i (some v))[j]?.join) := by
  rw [List.getElem?_set_ne (Ne.symm e)]; exact r
theorem store_ok {x : Str} {pv : Value} {v : V} {i : Nat} {R : Unit → Shared → Prop} (hn : trName c x = some i) (a : At C c env A m H s) (r : RepV pv v)
    (k : ∀ s', StH C H s' → EnvSt C c env (m.set i (some v)) H s'.heap → ExtS env H s.heap H s'.heap → R () s') : wpAny C.M A (storeName env x pv) R NoE s := by
  unfold trName at hn
  have hi : i < m.length := by
    rw [a.N.len]
    split at hn <;> first | exact a.eo.bnd _ _ hn | cases hn
  have self : OptRep (some pv) ((m.set i (some v))[i]?.join) := by rw [List.getElem?_set_self hi]; exact r
  split at hn
  · rename_i hk
    refine absG fun Cg hCg => ?_
    obtain ⟨mm, hN, hm⟩ := a.N.ns
    refine hCg ?_; clear hCg
    refine wpAny_storeName_local (a.eo.kloc _ hk) hN (fun h' hN' hs => ?_) (by rw [a.eo.kind]; rfl)
    have Q1 := quiet_one (s' := { s with heap := h', toks := s.toks + 1 }) a.S a.N.apL (fun b n => hs.2 b n) (let ⟨o, _, _, ho, _⟩ := hN'; ⟨o, ho⟩) rfl rfl
    refine k _ Q1.1 ⟨by rw [List.length_set]; exact a.N.len, ⟨_, hN', fun y j hy hky => ?_⟩, fun y j hy hky => ?_, ⟨a.N.apL.1, fun z => a.N.apL.2.1 ((Q1.2 _).mp z), a.N.apL.2.2⟩, fun y b e => ?_, a.N.injC⟩ ⟨fun b o e _ nl _ => (hs.2 b nl).trans e, fun b e => ?_, fun b f => .inl ?_, fun b o e => .inl ⟨o, e⟩⟩
    · by_cases q : y = x
      · subst q; rw [hn] at hy; cases hy; rw [if_pos rfl]; exact self
      · rw [if_neg q]
        have : j ≠ i := fun z => q (a.eo.inj _ _ _ hy (z ▸ hn))
        exact optRep_set hi this (hm y j hy hky)
    · refine absG fun Cg hCg => ?_
      obtain ⟨ca, ov, e1, e2, e3⟩ := a.N.cells y j hy hky
      obtain ⟨n1, n2, n3, n4, _⟩ := a.N.apC _ _ e1
      refine hCg ?_; clear hCg
      have : j ≠ i := fun z => by
        have := a.eo.inj _ _ _ hy (z ▸ hn)
        subst this
        rcases hky with q | q <;> (rw [hk] at q; cases q)
      exact ⟨ca, ov, e1, e2.sameBut hs n4, optRep_set hi this e3⟩
    · refine absG fun Cg hCg => ?_
      obtain ⟨n1, n2, n3, n4, o, lk⟩ := a.N.apC _ _ e
      refine hCg ?_; clear hCg
      exact ⟨n1, fun z => n2 ((Q1.2 _).mp z), n3, n4, o, (hs.2 _ n4).trans lk⟩
    · by_cases q : b = env.locals
      · refine absG fun Cg hCg => ?_
        obtain ⟨o, _, _, ho, _⟩ := hN'
        refine hCg ?_; clear hCg
        subst q
        have e : h'.get? env.locals = none := e
        rw [ho] at e; cases e
      · exact (hs.2 b q).symm.trans e
    · rcases f with f | f | f
      · exact .inl f
      · exact .inr (.inl f)
      · exact .inr (.inr ((Q1.2 _).mp f))
  · rename_i hk
    refine absG fun Cg hCg => ?_
    obtain ⟨ca, ov, e1, e2, e3⟩ := a.N.cells x i hn (.inl hk)
    have ap := a.N.apC _ _ e1
    refine hCg ?_; clear hCg
    refine wpAny_storeName_cell a.eo.kind (a.eo.kcell _ hk) e1 e2 (fun h' hc hs => ?_)
    have Q1 := quiet_one (s' := { s with heap := h' }) a.S ⟨ap.1, ap.2.1, ap.2.2.1⟩ (fun b n => hs.2 b n) (let ⟨o, ho, _⟩ := hc; ⟨o, ho⟩) rfl rfl
    refine absG fun Cg hCg => ?_
    obtain ⟨mm, hN, hm⟩ := a.N.ns
    refine hCg ?_; clear hCg
    refine k _ Q1.1 ⟨by rw [List.length_set]; exact a.N.len, ⟨_, hN.sameBut hs (Ne.symm ap.2.2.2.1), fun y j hy hky => ?_⟩, fun y j hy hky => ?_, ⟨a.N.apL.1, fun z => a.N.apL.2.1 ((Q1.2 _).mp z), a.N.apL.2.2⟩, fun y b e => ?_, a.N.injC⟩ ⟨fun b o e _ _ nc => (hs.2 b fun q => nc x (q ▸ e1)).trans e, fun b e => ?_, fun b f => .inl ?_, fun b o e => .inl ⟨o, e⟩⟩
    · have : j ≠ i := fun z => by
        have := a.eo.inj _ _ _ hy (z ▸ hn)
        subst this
        rw [hk] at hky; cases hky
      exact optRep_set hi this (hm y j hy hky)
    · by_cases q : y = x
      · subst q; rw [hn] at hy; cases hy
        exact ⟨ca, _, e1, hc, self⟩
      · refine absG fun Cg hCg => ?_
        obtain ⟨cb, ov', f1, f2, f3⟩ := a.N.cells y j hy hky
        have : j ≠ i := fun z => q (a.eo.inj _ _ _ hy (z ▸ hn))
        refine hCg ?_; clear hCg
        exact ⟨cb, ov', f1, f2.sameBut hs (fun z => q (a.N.injC _ _ _ f1 (z ▸ e1))), optRep_set hi this f3⟩
    · refine absG fun Cg hCg => ?_
      obtain ⟨n1, n2, n3, n4, o, lk⟩ := a.N.apC _ _ e
      refine hCg ?_; clear hCg
      refine ⟨n1, fun z => n2 ((Q1.2 _).mp z), n3, n4, ?_⟩
      by_cases q : b = ca
      · subst q; obtain ⟨o', ho', _⟩ := hc; exact ⟨o', ho'⟩
      · exact ⟨o, (hs.2 _ q).trans lk⟩
    · by_cases q : b = ca
      · refine absG fun Cg hCg => ?_
        obtain ⟨o, ho, _⟩ := hc
        refine hCg ?_; clear hCg
        subst q
        have e : h'.get? b = none := e
        rw [ho] at e; cases e
      · exact (hs.2 b q).symm.trans e
    · rcases f with f | f | f
      · exact .inl f
      · exact .inr (.inl f)
      · exact .inr (.inr ((Q1.2 _).mp f))
  · cases hn
noncomputable def RepF : PySem.Flow → Flow → Prop
  | .next, .next => True
  | .brk, .brk => True
  | .cont, .cont => True
  | .ret v, .ret w => RepV v w
  | _, _ => False
noncomputable def PSs (C : Cfg) (c : Ctx) (env : Env) (H : Heap) (s : Shared) (Q : PS) : PySem.Flow → Shared → Prop := fun fl s' => ∃ mfl m' H', RepF fl mfl ∧ StH C H' s' ∧ EnvSt C c env m' H' s'.heap ∧ ExtS env H s.heap H' s'.heap ∧ Q mfl m' H'
theorem PSs.ext {Q : PS} {fl : PySem.Flow} (x : ExtS env H s.heap H1 s1.heap) (y : PSs C c env H1 s1 Q fl s') : PSs C c env H s Q fl s' := let ⟨a, b, d, r, S, N, e, q⟩ := y; ⟨a, b, d, r, S, N, x.trans e, q⟩
noncomputable def SndS (C : Cfg) (Φ : Orac) (c : Ctx) (st : Stmt) (ms : S) : Prop :=
  ∀ {env : Env} {A : Around} {m : Loc} {H : Heap} {s : Shared} {Q : PS}, At C c env A m H s → wpS Φ ms m H Q → wpAny C.M A (exec st env) (PSs C c env H s Q) NoE s
noncomputable def SndSs (C : Cfg) (Φ : Orac) (c : Ctx) (st : List Stmt) (ms : List S) : Prop :=
  ∀ {env : Env} {A : Around} {m : Loc} {H : Heap} {s : Shared} {Q : PS}, At C c env A m H s → wpSs Φ ms m H Q → wpAny C.M A (execs st env) (PSs C c env H s Q) NoE s
theorem At.then (a : At C c env A m H s) (S : StH C H1 s1) (N : EnvSt C c env m' H1 s1.heap) : At C c env A m' H1 s1 := ⟨a.eo, a.ao, S, N⟩
theorem execs_nil_ok : SndSs C Φ c [] [] := fun {env A m H s Q} a hw => by
  simp only [s_nil, s_cons] at hw
  exact wpAny_execs_nil ⟨.next, m, H, trivial, a.S, a.N, Ext.refl.toS, hw⟩
theorem execs_cons_ok {st : Stmt} {sts : List Stmt} {ms : S} {mss : List S} (h1 : SndS C Φ c st ms) (h2 : SndSs C Φ c sts mss) : SndSs C Φ c (st :: sts) (ms :: mss) := fun {env A m H s Q} a hw => by
  simp only [s_nil, s_cons] at hw
  refine wpAny_execs_cons (wpAny_ext (h1 a hw) fun fl s1 z => ?_)
  refine absG fun Cg hCg => ?_
  obtain ⟨mfl, m1, H1, r, S1, N1, x1, q⟩ := z
  refine hCg ?_; clear hCg
  cases fl with
  | next => cases mfl <;> first | exact r.elim | exact wpAny_ext (h2 (a.then S1 N1) q) fun _ _ z => PSs.ext x1 z
  | brk => cases mfl <;> first | exact r.elim | exact ⟨_, m1, H1, r, S1, N1, x1, q⟩
  | cont => cases mfl <;> first | exact r.elim | exact ⟨_, m1, H1, r, S1, N1, x1, q⟩
  | ret v => cases mfl <;> first | exact r.elim | exact ⟨_, m1, H1, r, S1, N1, x1, q⟩
theorem execs_ok {f : Stmt → Option S} (hf : ∀ st ms, f st = some ms → SndS C Φ c st ms) : ∀ {sts : List Stmt} {mss : List S}, mapO f sts = some mss → SndSs C Φ c sts mss := by
  intro sts
  induction sts with
  | nil => intro mss h; cases h; exact execs_nil_ok
  | cons st sts ih =>
    intro mss h
    unfold mapO at h
    split at h
    · rename_i b hb
      split at h
      · rename_i bs hbs; cases h; exact execs_cons_ok (hf _ _ hb) (ih hbs)
      · cases h
    · cases h
section
variable {Q : PS} {pos pos' : Pos} {e e1 e2 e3 : Expr} {me me1 me2 me3 : E}
theorem assign_ok {x : Str} {i : Nat} (hn : trName c x = some i) (h : SndE C Φ c e me) (hsw : ∀ env : Env, swapsWith e (some (.Name x pos')) pos.line env = pure false) (a : At C c env A m H s) (hw : wpS Φ (.assign i me) m H Q) :
    wpAny C.M A (exec (.Assign [.Name x pos'] e pos) env) (PSs C c env H s Q) NoE s := by
  simp only [s_assign, s_unpack, s_setAttr, s_setIdx, s_delIdx, s_append, s_expr, s_ret0, s_ret, s_ite, s_whl, s_for, s_brk, s_pass] at hw
  refine wpAny_Assign_Name (h.then a hw fun v s1 y H1 r a1 x1 q => store_ok hn a1 r fun s2 S2 N2 x2 => ?_) (hsw env)
  exact ⟨.next, _, H1, trivial, S2, N2, x1.toS.trans x2, q⟩
theorem ret_ok (h : SndE C Φ c e me) (a : At C c env A m H s) (hw : wpS Φ (.ret (some me)) m H Q) : wpAny C.M A (exec (.Return (some e) pos) env) (PSs C c env H s Q) NoE s := by
  simp only [s_assign, s_unpack, s_setAttr, s_setIdx, s_delIdx, s_append, s_expr, s_ret0, s_ret, s_ite, s_whl, s_for, s_brk, s_pass] at hw
  exact wpAny_Return_some (h.then a hw fun v s1 y H1 r a1 x1 q => ⟨.ret y, m, H1, r, a1.S, a1.N, x1.toS, q⟩)
theorem ret0_ok (a : At C c env A m H s) (hw : wpS Φ (.ret none) m H Q) : wpAny C.M A (exec (.Return none pos) env) (PSs C c env H s Q) NoE s := by
  simp only [s_assign, s_unpack, s_setAttr, s_setIdx, s_delIdx, s_append, s_expr, s_ret0, s_ret, s_ite, s_whl, s_for, s_brk, s_pass] at hw
  exact wpAny_Return_none ⟨.ret .none, m, H, trivial, a.S, a.N, Ext.refl.toS, hw⟩
theorem pass_ok (a : At C c env A m H s) (hw : wpS Φ .pass m H Q) : wpAny C.M A (exec (.Pass pos) env) (PSs C c env H s Q) NoE s := by
  simp only [s_assign, s_unpack, s_setAttr, s_setIdx, s_delIdx, s_append, s_expr, s_ret0, s_ret, s_ite, s_whl, s_for, s_brk, s_pass] at hw
  exact wpAny_Pass ⟨.next, m, H, trivial, a.S, a.N, Ext.refl.toS, hw⟩
theorem brk_ok (a : At C c env A m H s) (hw : wpS Φ .brk m H Q) : wpAny C.M A (exec (.Break pos) env) (PSs C c env H s Q) NoE s := by
  simp only [s_assign, s_unpack, s_setAttr, s_setIdx, s_delIdx, s_append, s_expr, s_ret0, s_ret, s_ite, s_whl, s_for, s_brk, s_pass] at hw
  exact wpAny_Break ⟨.brk, m, H, trivial, a.S, a.N, Ext.refl.toS, hw⟩
theorem if_ok {b1 b2 : List Stmt} {mb1 mb2 : List S} (h : SndT C Φ c e me) (h1 : SndSs C Φ c b1 mb1) (h2 : SndSs C Φ c b2 mb2) (a : At C c env A m H s) (hw : wpS Φ (.ite me mb1 mb2) m H Q) :
    wpAny C.M A (exec (.If e b1 b2 pos) env) (PSs C c env H s Q) NoE s := by
  simp only [s_assign, s_unpack, s_setAttr, s_setIdx, s_delIdx, s_append, s_expr, s_ret0, s_ret, s_ite, s_whl, s_for, s_brk, s_pass] at hw
  refine wpAny_If (h.then a hw fun r s1 H1 a1 x1 q => ?_)
  cases r with
  | true => exact wpAny_ext (h1 a1 q) fun _ _ z => PSs.ext x1.toS z
  | false => exact wpAny_ext (h2 a1 q) fun _ _ z => PSs.ext x1.toS z
theorem expr_ok (h : SndE C Φ c e me) (hc : isComp e = false) (a : At C c env A m H s) (hw : wpS Φ (.expr me) m H Q) : wpAny C.M A (exec (.Expr e pos) env) (PSs C c env H s Q) NoE s := by
  simp only [s_assign, s_unpack, s_setAttr, s_setIdx, s_delIdx, s_append, s_expr, s_ret0, s_ret, s_ite, s_whl, s_for, s_brk, s_pass] at hw
  refine wpAny_Expr (h.then a hw fun v s1 y H1 r a1 x1 q => ?_) (by unfold interactive; rw [a.eo.kind]; rfl) (by cases e <;> first | rfl | cases hc)
  cases y with
  | ref p => exact q.elim
  | none => cases r.none; exact ⟨.next, m, H1, trivial, a1.S, a1.N, x1.toS, q⟩
  | bool b => cases r.bool; exact ⟨.next, m, H1, trivial, a1.S, a1.N, x1.toS, q⟩
  | int b => obtain ⟨t, rfl⟩ := r.int; exact ⟨.next, m, H1, trivial, a1.S, a1.N, x1.toS, q⟩
  | flt b => obtain ⟨t, rfl⟩ := r.flt; exact ⟨.next, m, H1, trivial, a1.S, a1.N, x1.toS, q⟩
  | str b => obtain ⟨z, t, rfl, _⟩ := r.str; exact ⟨.next, m, H1, trivial, a1.S, a1.N, x1.toS, q⟩
end
end ML
namespace ML
open PySem PySem.W PySem.Calls PyProof.Rows PySem.SeqAt
variable {C : Cfg} {Φ : Orac} {c : Ctx} {H H' H'' H1 : Heap} {s s' s1 s2 : Shared} {h h' h'' : PHeap} {A : Around} {env : Env} {m m' : Loc}
variable {Q : PS} {pos pos' : Pos} {e o i : Expr} {me mo mi : E}
theorem mapSeq_list {items : Array Value} {n : Nat} (f : Array Value → Array Value) : ∃ n', Obj.mapSeq f { cls := .type "list", dict := none, data := .seq items n, slots := #[] } = { cls := .type "list", dict := none, data := .seq (f items) n', slots := #[] } := ⟨_, rfl⟩
theorem lst_write {p : Nat} {xs ys : List V} {vs us : List Value} {n : Nat} {f : Array Value → Array Value} (S : StH C H s) (hp : H p = some (.list xs)) (l : IsL s.heap p vs.toArray n) (hf : f vs.toArray = us.toArray) (hr : All2 RepV us ys) (hz : ys.length ≤ 2 * lim) :
    StH C (H.upd p (.list ys)) { s with heap := s.heap.update p (Obj.mapSeq f) } ∧ Ext H s.heap (H.upd p (.list ys)) (s.heap.update p (Obj.mapSeq f)) := by
  obtain ⟨n', e⟩ := mapSeq_list (items := vs.toArray) (n := n) f
  rw [hf] at e
  exact S.write (tk := s.toks) hp l (.inl ⟨xs, rfl⟩) (.inl ⟨ys, rfl⟩) (by rw [e]; rfl) ⟨us, n', by show _ = _; rw [Heap.get?_update_self _ l (by rw [e]; rfl), e], hr, hr.length ▸ hz⟩
theorem setattr_ok {x : Str} {j : Nat} (O : C.Ok) (hx : attrIs j x) (he : SndE C Φ c e me) (ho : SndE C Φ c o mo) (hc : isComp e = false) (a : At C c env A m H s) (hw : wpS Φ (.setAttr mo j me) m H Q) :
    wpAny C.M A (exec (.Assign [.Attribute o x pos'] e pos) env) (PSs C c env H s Q) NoE s := by
  simp only [s_assign, s_unpack, s_setAttr, s_setIdx, s_delIdx, s_append, s_expr, s_ret0, s_ret, s_ite, s_whl, s_for, s_brk, s_pass] at hw
  refine plainObj_wpAny_Assign_Attribute (he.then a hw fun v s1 y H1 r1 a1 x1 q1 => ho.then a1 q1 fun ov s2 z H2 r2 a2 x2 q2 => ?_) (by cases e <;> first | rfl | cases hc)
  unfold setAttrW at q2
  split at q2
  · rename_i p
    cases r2.ref
    split at q2
    · rename_i ci fs hp
      refine wpAny_ext (setAttr_ok O a2.S hp hx r1 q2.1 q2.2) fun _ s3 w => ?_
      refine absG fun Cg hCg => ?_
      obtain ⟨H3, S3, x3, q3⟩ := w
      refine hCg ?_; clear hCg
      exact ⟨.next, m, H3, trivial, S3, a2.N.ext x3, ((x1.trans x2).trans x3).toS, q3⟩
    · exact q2.elim
  · exact q2.elim
theorem append_ok {ap cp : Pos} (hb : bareCall o = false) (hs : isStar e = false) (hline : (ap.endLine == cp.line) = true) (ho : SndE C Φ c o mo) (he : SndE C Φ c e me) (a : At C c env A m H s) (hw : wpS Φ (.append mo me) m H Q) :
    wpAny C.M A (exec (.Expr (.Call (.Attribute o "append" ap) [e] [] cp) pos) env) (PSs C c env H s Q) NoE s := by
  simp only [s_assign, s_unpack, s_setAttr, s_setIdx, s_delIdx, s_append, s_expr, s_ret0, s_ret, s_ite, s_whl, s_for, s_brk, s_pass] at hw
  have hst : starEach [e] env = [(false, eval e env)] := by cases e <;> first | rfl | cases hs
  refine wpAny_Expr ?_ (by unfold interactive; rw [a.eo.kind]; rfl) rfl
  refine wpAny_Call_append (base_of hb) (by rw [hst]; rfl) hline (by rw [hst]; rfl) (ho.then a hw fun ov s1 z H1 r1 a1 x1 q1 => ?_)
  obtain ⟨hl, q1⟩ := q1
  cases z with
  | ref p =>
    cases r1.ref
    unfold isLst at hl
    dsimp only at hl
    split at hl
    · rename_i ys hp
      refine absG fun Cg hCg => ?_
      obtain ⟨vs, n, l, rr, _⟩ := a1.S.rep _ _ hp
      refine hCg ?_; clear hCg
      refine ⟨p, vs.toArray, rfl, ⟨_, n, l, rfl, rfl, rfl⟩, he.then a1 q1 fun v s2 y H2 r2 a2 x2 q2 => ?_⟩
      unfold appendW at q2
      dsimp only at q2
      split at q2
      · rename_i xs hp2
        refine absG fun Cg hCg => ?_
        obtain ⟨us, n2, l2, rr2, _⟩ := a2.S.rep _ _ hp2
        have W := lst_write (f := fun x => x.push v) (us := us ++ [v]) (ys := xs ++ [y]) a2.S hp2 l2 (by simp) (rr2.append (.cons r2 .nil)) (by rw [List.length_append]; have := q2.1; have : lim = 1000000 := rfl; simp; (first | lia | omega))
        refine hCg ?_; clear hCg
        exact call_meets F.slot_list_append ⟨_, l2, rfl⟩ F.entry_list_append (F.args_list_append_2 _ _) (list_append p us.toArray n2 v (by simp only [List.size_toArray, rr2.length]; exact sizeLine_lim q2.1))
          ⟨l2, ⟨.next, m, _, trivial, W.1, a2.N.ext W.2, ((x1.trans x2).trans W.2).toS, q2.2⟩⟩
      · exact q2.elim
    · exact hl.elim
  | _ => exact hl.elim
theorem setidx_ok (hc : isComp e = false) (hi : isSlice i = false) (he : SndE C Φ c e me) (ho : SndE C Φ c o mo) (hii : SndE C Φ c i mi) (a : At C c env A m H s) (hw : wpS Φ (.setIdx mo mi me) m H Q) :
    wpAny C.M A (exec (.Assign [.Subscript o i pos'] e pos) env) (PSs C c env H s Q) NoE s := by
  simp only [s_assign, s_unpack, s_setAttr, s_setIdx, s_delIdx, s_append, s_expr, s_ret0, s_ret, s_ite, s_whl, s_for, s_brk, s_pass] at hw
  refine wpAny_Assign_Subscript (he.then a hw fun v s1 y H1 r1 a1 x1 q1 => ho.then a1 q1 fun ov s2 z H2 r2 a2 x2 q2 => hii.then a2 q2 fun iv s3 w H3 r3 a3 x3 q3 => ?_) (by cases e <;> first | rfl | cases hc)
  unfold setIdxW at q3
  split at q3
  · rename_i p k
    cases r2.ref
    obtain ⟨t, rfl⟩ := r3.int
    split at q3
    · rename_i xs hp
      refine absG fun Cg hCg => ?_
      obtain ⟨h0, h1, h2, q⟩ := q3
      obtain ⟨us, n2, l2, rr2, hz⟩ := a3.S.rep _ _ hp
      have hlen : us.length = xs.length := rr2.length
      have W := lst_write (f := fun x => x.setIfInBounds k.toNat v) (us := us.set k.toNat v) (ys := xs.set k.toNat y) a3.S hp l2 (by simp) (rr2.set r1 _) (by rw [List.length_set, ← hlen]; exact hz)
      refine hCg ?_; clear hCg
      exact ki_setAt (n := n2) l2 h0 (Int.lt_trans h2 (by decide)) (by simp only [List.size_toArray]; (first | lia | omega)) ⟨.next, m, _, trivial, W.1, a3.N.ext W.2, (((x1.trans x2).trans x3).trans W.2).toS, q⟩
    · rename_i es hp
      exact (a3.S.rep _ _ hp).elim
    · exact q3.elim
  · exact q3.elim
theorem delidx_ok (hi : isSlice i = false) (ho : SndE C Φ c o mo) (hii : SndE C Φ c i mi) (a : At C c env A m H s) (hw : wpS Φ (.delIdx mo mi) m H Q) :
    wpAny C.M A (exec (.Delete [.Subscript o i pos'] pos) env) (PSs C c env H s Q) NoE s := by
  simp only [s_assign, s_unpack, s_setAttr, s_setIdx, s_delIdx, s_append, s_expr, s_ret0, s_ret, s_ite, s_whl, s_for, s_brk, s_pass] at hw
  refine wpAny_Delete ?_
  show wpAny C.M A (do delete (.Subscript o i pos') env; deleteEach [] env) _ _ _
  refine wpAny_bind ?_
  show wpAny C.M A (do
    let ov ← eval o env
    let iv ← holding [ov] (eval i env)
    standAt pos'
    holding [ov, iv] (delItem ov iv)
    release [ov, iv] []) _ _ _
  refine wpAny_bind (ho.then a hw fun ov s1 z H1 r1 a1 x1 q1 => wpAny_bind (wpAny_holding (hii.then a1 q1 fun iv s2 w H2 r2 a2 x2 q2 => wpAny_bind (wpAny_standAt (wpAny_bind (wpAny_holding ?_))))))
  unfold delIdxW at q2
  split at q2
  · rename_i p k
    cases r1.ref
    obtain ⟨t, rfl⟩ := r2.int
    split at q2
    · rename_i xs hp
      refine absG fun Cg hCg => ?_
      obtain ⟨h0, h1, h2, q⟩ := q2
      obtain ⟨us, n2, l2, rr2, hz⟩ := a2.S.rep _ _ hp
      have hlen : us.length = xs.length := rr2.length
      refine hCg ?_; clear hCg
      have W := lst_write (f := fun x => x.eraseIdxIfInBounds k.toNat) (us := us.eraseIdx k.toNat) (ys := xs.eraseIdx k.toNat) a2.S hp l2 (by
        have : k.toNat < us.toArray.size := by simp only [List.size_toArray]; (first | lia | omega)
        unfold Array.eraseIdxIfInBounds
        rw [dif_pos this]
        simp) (rr2.eraseIdx _) (by have := List.length_eraseIdx_le xs k.toNat; (first | lia | omega))
      have hk : seqIndex? k us.toArray.size = some k.toNat := by
        have hk0 : ¬ k < 0 := by (first | lia | omega)
        have hk1 : (decide (0 ≤ k) && decide (k < (us.toArray.size : Int))) = true := by rw [decide_eq_true h0, Bool.true_and]; simp only [List.size_toArray]; exact decide_eq_true (by (first | lia | omega))
        unfold seqIndex?
        simp only [hk0, if_false]
        rw [if_pos hk1]
      refine P.delItem_list l2 (by simp [Builtin.List.listFitsIndex]; unfold lim at h2; (first | lia | omega)) hk ?_ (by simp only [List.size_toArray, rr2.length]; exact sizeLine_lim h2)
      refine wpAny_release (wpAny_deleteEach_nil ⟨.next, m, _, trivial, W.1, a2.N.ext W.2, ((x1.trans x2).trans W.2).toS, q⟩)
    · exact q2.elim
  · exact q2.elim
theorem while_ok {b : List Stmt} {mb : List S} (ht : SndT C Φ c e me) (hb : SndSs C Φ c b mb) (a : At C c env A m H s) (hw : wpS Φ (.whl me mb) m H Q) :
    wpAny C.M A (exec (.While e b [] pos) env) (PSs C c env H s Q) NoE s := by
  simp only [s_assign, s_unpack, s_setAttr, s_setIdx, s_delIdx, s_append, s_expr, s_ret0, s_ret, s_ite, s_whl, s_for, s_brk, s_pass] at hw
  refine absG fun Cg hCg => ?_
  obtain ⟨I, n, hI, step⟩ := hw
  refine hCg ?_; clear hCg
  refine wpAny_While (codeAny_whileLoop (fun n s' => ∃ m' H', I n m' H' ∧ StH C H' s' ∧ EnvSt C c env m' H' s'.heap ∧ ExtS env H s.heap H' s'.heap) (fun n s1 hI1 => ?_) n ⟨m, H, hI, a.S, a.N, Ext.refl.toS⟩)
  refine absG fun Cg hCg => ?_
  obtain ⟨m1, H1, I1, S1, N1, x1⟩ := hI1
  refine hCg ?_; clear hCg
  refine wpAny_mono (Q := PT C H1 s1 _) (E := NoE) (ht (a.then S1 N1) (step n m1 H1 I1)) (fun r s2 z => ?_) fun _ _ f => f.elim
  refine absG fun Cg hCg => ?_
  obtain ⟨H2, S2, x2, q⟩ := z
  have a2 : At C c env A m1 H2 s2 := (a.then S1 N1).on S2 x2
  refine hCg ?_; clear hCg
  cases r with
  | true =>
    simp only [if_true] at q ⊢
    refine wpAny_mono (hb a2 q) (fun fl s3 z => ?_) fun _ _ f => f.elim
    refine absG fun Cg hCg => ?_
    obtain ⟨mfl, m3, H3, r3, S3, N3, x3, H4, l4, q3⟩ := z
    have xx := ((x1.trans x2.toS).trans x3).forget l4
    refine hCg ?_; clear hCg
    cases fl with
    | next => cases mfl <;> first | exact r3.elim | (obtain ⟨k, hk, I3⟩ := q3; exact ⟨k, hk, m3, H4, I3, S3.forget l4, N3.forget l4, xx⟩)
    | cont => cases mfl <;> first | exact r3.elim | (obtain ⟨k, hk, I3⟩ := q3; exact ⟨k, hk, m3, H4, I3, S3.forget l4, N3.forget l4, xx⟩)
    | brk => cases mfl <;> first | exact r3.elim | exact ⟨.next, m3, H4, trivial, S3.forget l4, N3.forget l4, xx, q3⟩
    | ret v => cases mfl <;> first | exact r3.elim | exact ⟨_, m3, H4, r3, S3.forget l4, N3.forget l4, xx, q3⟩
  | false =>
    simp only [Bool.false_eq_true, if_false] at q ⊢
    exact wpAny_execs_nil ⟨.next, m1, H2, trivial, S2, a2.N, x1.trans x2.toS, q⟩
end ML
namespace ML
open PySem PySem.W PySem.Calls PyProof.Rows PySem.SeqAt
variable {C : Cfg} {Φ : Orac} {c : Ctx} {H H' H'' H1 : Heap} {s s' s1 s2 : Shared} {h h' h'' : PHeap} {A : Around} {env : Env} {m m' : Loc}
structure IterOk (C : Cfg) (xs : List V) (ok : Heap → Prop) (it : Addr) (P : Nat → PHeap → Prop) : Prop where
  look : ∀ k h, P k h → ∃ o, h.get? it = some o
  same : ∀ k h h', P k h → (∀ o, h.get? it = some o → h'.get? it = some o) → P k h'
  next : ∀ k x H s A (R : Option Value → Shared → Prop), xs[k]? = some x → StH C H s → ok H → P k s.heap →
    (∀ pv s', RepV pv x → P (k + 1) s'.heap → (∀ b, b ≠ it → s'.heap.get? b = s.heap.get? b) → s'.gens = s.gens → s'.os = s.os → R (some pv) s') → wpAny C.M A (pyNext (.ref it)) R NoE s
  stop : ∀ k H s A (R : Option Value → Shared → Prop), A.handled = none → xs[k]? = none → StH C H s → ok H → P k s.heap →
    (∀ s', (∀ b o, b ≠ it → s.heap.get? b = some o → s'.heap.get? b = some o) → s'.gens = s.gens → s'.os = s.os → R none s') → wpAny C.M A (pyNext (.ref it)) R NoE s
  self : ∀ k s A (R : Value → Shared → Prop), P k s.heap → R (.ref it) s → wpAny C.M A (pyIter (.ref it)) R NoE s
theorem iter_list {p it : Addr} {xs : List V} {o : O} (ho : o.lst? = some xs) : IterOk C xs (fun H => H p = some o) it (fun k h => h.IsListIter it p k) where
  look k h x := let ⟨o, e, _⟩ := x; ⟨o, e⟩
  same k h h' x e := x.at e
  next k x H s A R hx S hp hi kk := by
    have fin : ∀ {vs : List Value}, s.heap.IsList p vs.toArray → All2 RepV vs xs → wpAny C.M A (pyNext (.ref it)) R NoE s := by
      intro vs l rr
      refine absG fun Cg hCg => ?_
      obtain ⟨pv, e1, e2⟩ := rr.get hx
      refine hCg ?_; clear hCg
      exact wpAny_pyNext_list_item hi l (by simpa using e1) fun h' hi' hs => kk pv _ e2 hi' (fun b n => hs.2 b n) rfl rfl
    have r := S.rep _ _ hp
    cases o with
    | list ys => cases ho; obtain ⟨vs, n, l, rr, _⟩ := r; exact fin l.isList rr
    | ro ys => cases ho; obtain ⟨vs, l, rr, _⟩ := r; exact fin l rr
    | _ => cases ho
  stop k H s A R hh hx S hp hi kk := by
    have fin : ∀ {vs : List Value}, s.heap.IsList p vs.toArray → All2 RepV vs xs → wpAny C.M A (pyNext (.ref it)) R NoE s := by
      intro vs l rr
      have e1 : vs[k]? = none := by
        rw [List.getElem?_eq_none_iff] at hx ⊢
        rw [rr.length]; exact hx
      exact wpAny_pyNext_list_end hh hi l (by simpa using e1) fun h' hs => kk _ (fun b o n e => hs b o n e) rfl rfl
    have r := S.rep _ _ hp
    cases o with
    | list ys => cases ho; obtain ⟨vs, n, l, rr, _⟩ := r; exact fin l.isList rr
    | ro ys => cases ho; obtain ⟨vs, l, rr, _⟩ := r; exact fin l rr
    | _ => cases ho
  self k s A R x q := wpAny_pyIter_listiter x q
theorem iter_range {it : Addr} {a st : Int} {n : Nat} {f : Nat → Int} (hf : ∀ k, f k = a + k * st) : IterOk C ((List.range n).map fun k => V.int (f k)) (fun _ => True) it (fun k h => k ≤ n ∧ IsRangeIter h it (a + k * st) ((n : Int) - k) st) where
  look k h x := ⟨_, x.2⟩
  same k h h' x e := ⟨x.1, e _ x.2⟩
  next k x H s A R hx S _ hi kk := by
    have hk : k < n := by
      cases q : decide (k < n) with
      | true => exact of_decide_eq_true q
      | false => rw [List.getElem?_eq_none (by have := of_decide_eq_false q; simp; (first | lia | omega))] at hx; cases hx
    have hx' : x = .int (f k) := by
      rw [List.getElem?_map, List.getElem?_range hk] at hx
      exact (Option.some.inj hx).symm
    refine wpAny_pyNext_range_item hi.2 (by (first | lia | omega)) fun h' hi' hs => kk _ _ (by rw [hx', hf]; rfl) ⟨hk, ?_⟩ (fun b n => hs.2 b n) rfl rfl
    have e1 : a + k * st + st = a + ((k + 1 : Nat) : Int) * st := by rw [Int.natCast_add, Int.add_mul]; simp; (first | lia | omega)
    have e2 : (n : Int) - k - 1 = (n : Int) - ((k + 1 : Nat) : Int) := by (first | lia | omega)
    rw [e1, e2] at hi'
    exact hi'
  stop k H s A R hh hx S _ hi kk := by
    have hk : n ≤ k := by
      rw [List.getElem?_eq_none_iff] at hx
      simpa using hx
    exact wpAny_pyNext_range_end hh hi.2 (by (first | lia | omega)) fun h' hs => kk _ (fun b o n e => hs b o n e) rfl rfl
  self k s A R x q := wpAny_pyIter_rangeiter x.2 q
structure Apart (C : Cfg) (H : Heap) (h : PHeap) (b : Addr) : Prop where
  at_ : H b = none
  hid : ¬ Hid H h b
  base : C.h₀.get? b = none
theorem Apart.fp {b : Addr} (x : Apart C H h b) : ¬ Fp H h b := not_fp x.at_ x.hid
theorem EnvSt.stay (x : EnvSt C c env m H h) (hk : ∀ b o, (b = env.locals ∨ ∃ y, env.cells.lookup y = some b) → h.get? b = some o → h'.get? b = some o) (hh : ∀ b, Hid H h' b → Hid H h b) : EnvSt C c env m H h' := by
  refine absG fun Cg hCg => ?_
  obtain ⟨mm, ⟨o, es, ep, ho, hr⟩, hm⟩ := x.ns
  refine hCg ?_; clear hCg
  refine ⟨x.len, ⟨mm, ⟨o, es, ep, hk _ _ (.inl rfl) ho, hr⟩, hm⟩, fun z i e k => ?_, ⟨x.apL.1, fun z => x.apL.2.1 (hh _ z), x.apL.2.2⟩, fun z a e => ?_, x.injC⟩
  · refine absG fun Cg hCg => ?_
    obtain ⟨a, ov, e1, ⟨oc, e2, e3⟩, e4⟩ := x.cells z i e k
    refine hCg ?_; clear hCg
    exact ⟨a, ov, e1, ⟨oc, hk _ _ (.inr ⟨_, e1⟩) e2, e3⟩, e4⟩
  · refine absG fun Cg hCg => ?_
    obtain ⟨n1, n2, n3, n4, o', lk⟩ := x.apC _ _ e
    refine hCg ?_; clear hCg
    exact ⟨n1, fun z => n2 (hh _ z), n3, n4, o', hk _ _ (.inr ⟨_, e⟩) lk⟩
theorem touch {it : Addr} (a : At C c env A m H s) (ap : Apart C H s.heap it) (hl : it ≠ env.locals) (hc : ∀ x, env.cells.lookup x ≠ some it) (hk : ∀ b o, b ≠ it → s.heap.get? b = some o → s'.heap.get? b = some o) (hg : s'.gens = s.gens) (hos : s'.os = s.os) :
    At C c env A m H s' ∧ ∀ b, Hid H s'.heap b → Hid H s.heap b := by
  have hh : ∀ b, Hid H s'.heap b → Hid H s.heap b := fun b z => z.same (fun d c fs e o lk => hk _ _ (fun q => by rw [q, ap.at_] at e; cases e) lk) fun d o e => (a_rep a.S e)
  refine ⟨⟨a.eo, a.ao, a.S.quiet (fun b => b = it) (fun b o e n => hk b o n e) (fun b e => by subst e; exact ⟨ap.at_, ap.base, ap.hid⟩) hg hos, a.N.stay (fun b o w e => hk b o (fun q => ?_) e) hh⟩, hh⟩
  subst q
  rcases w with w | ⟨y, w⟩
  · exact hl w
  · exact hc y w
where a_rep {C : Cfg} {H : Heap} {s : Shared} {a : Addr} {o : O} (S : StH C H s) (e : H a = some o) : ∃ ob, s.heap.get? a = some ob := (S.rep _ _ e).look
theorem ExtS.touch {it : Addr} (x : ExtS env H h H' h') (hz : h.get? it = none) (hk : ∀ b o, b ≠ it → h'.get? b = some o → h''.get? b = some o) (hh : ∀ b, Hid H' h'' b → Hid H' h' b) : ExtS env H h H' h'' where
  keep b o e n l k := hk b o (fun q => by rw [q, hz] at e; cases e) (x.keep b o e n l k)
  alive b e := by
    by_cases q : b = it
    · rw [q]; exact hz
    · refine x.alive b ?_
      cases z : h'.get? b with
      | none => rfl
      | some o => rw [hk b o q z] at e; cases e
  fresh b f := x.fresh b (by
    rcases f with f | f | f
    · exact .inl f
    · exact .inr (.inl f)
    · exact .inr (.inr (hh _ f)))
  dom b o e := x.dom b o e
theorem ExtS.apart (x : ExtS env H h H' h') {b : Addr} {o : Obj} (e : h.get? b = some o) (a : Apart C H h b) (hl : b ≠ env.locals) (hc : ∀ x, env.cells.lookup x ≠ some b) : h'.get? b = some o ∧ Apart C H' h' b := by
  refine ⟨x.keep _ _ e a.fp hl hc, ?_, fun y => ?_, a.base⟩
  · cases q : H' b with
    | none => rfl
    | some o' =>
      rcases x.dom _ _ q with ⟨z, q⟩ | q
      · rw [a.at_] at q; cases q
      · rw [e] at q; cases q
  · rcases x.fresh _ (.inr (.inr y)) with f | q
    · exact a.fp f
    · rw [e] at q; cases q
noncomputable def SndSrc (C : Cfg) (Φ : Orac) (c : Ctx) (iter : Expr) (src : Src) : Prop :=
  ∀ {env : Env} {A : Around} {m : Loc} {H : Heap} {s : Shared} {Q : List V → (Heap → Prop) → Heap → Prop} {R : Value → Shared → Prop}, At C c env A m H s → wpSrc Φ src m H Q →
    (∀ it s2 xs ok H2 P, IterOk C xs ok it P → P 0 s2.heap → s.heap.get? it = none → Apart C H2 s2.heap it → At C c env A m H2 s2 → Ext H s.heap H2 s2.heap → Q xs ok H2 → R (.ref it) s2) →
    wpAny C.M A (eval iter env) (fun x s1 => wpAny C.M A (pyIter x) R NoE s1) NoE s
theorem for_ok {x : Str} {px pos : Pos} {iter : Expr} {src : Src} {b : List Stmt} {mb : List S} {i : Nat} {Q : PS} (hn : trName c x = some i) (hi : SndSrc C Φ c iter src) (hb : SndSs C Φ c b mb) (hs : ∀ (env : Env) x, foldedSetIterable iter env x = pure x)
    (a : At C c env A m H s) (hw : wpS Φ (.for1 [i] src mb) m H Q) :
    wpAny C.M A (exec (.For (.Name x px) iter b [] pos) env) (PSs C c env H s Q) NoE s := by
  simp only [s_assign, s_unpack, s_setAttr, s_setIdx, s_delIdx, s_append, s_expr, s_ret0, s_ret, s_ite, s_whl, s_for, s_brk, s_pass] at hw
  refine wpAny_For (hi a hw fun it s2 xs ok H2 P I hP hz ap a2 x2 q2 => ?_) (hs env)
  refine codeAny_mono (R := fun r s' => ∃ f, r = .ok f ∧ PSs C c env H s Q f s') ?_ (fun r s' z => by obtain ⟨f, rfl, z⟩ := z; exact z)
  have hl : it ≠ env.locals := fun q => by
    refine absG fun Cg hCg => ?_
    obtain ⟨mm, ⟨o, es, ep, ho, hr⟩, hm⟩ := a.N.ns
    refine hCg ?_; clear hCg
    rw [← q, hz] at ho; cases ho
  have hc : ∀ x, env.cells.lookup x ≠ some it := fun x q => by
    refine absG fun Cg hCg => ?_
    obtain ⟨_, _, _, _, o, lk⟩ := a.N.apC _ _ q
    refine hCg ?_; clear hCg
    rw [hz] at lk; cases lk
  refine codeAny_forLoop (fun n s' => ∃ k m' H', n = xs.length - k ∧ forW (wpSs Φ mb) [i] ok (xs.drop k) m' H' Q ∧ At C c env A m' H' s' ∧ ExtS env H s.heap H' s'.heap ∧ P k s'.heap ∧ Apart C H' s'.heap it) (fun n s1 hI => ?_) _ ⟨0, m, H2, rfl, q2, a2, x2.toS, hP, ap⟩
  refine absG fun Cg hCg => ?_
  obtain ⟨k, m1, H1, rfl, fw, a1, x1, P1, ap1⟩ := hI
  refine hCg ?_; clear hCg
  cases hx : xs[k]? with
  | none =>
    have hlen : xs.length ≤ k := List.getElem?_eq_none_iff.mp hx
    rw [List.drop_eq_nil_of_le hlen] at fw
    refine wpAny_noE (I.stop k H1 s1 A _ a.ao.hd hx a1.S fw.1 P1 fun s2 hk hg hos => ?_)
    obtain ⟨t1, t2⟩ := touch a1 ap1 hl hc hk hg hos
    exact wpAny_execs_nil ⟨_, rfl, .next, m1, H1, trivial, t1.S, t1.N, x1.touch hz hk t2, fw.2⟩
  | some y =>
    have hlt : k < xs.length := by
      by_cases q : k < xs.length
      · exact q
      · rw [List.getElem?_eq_none (by (first | lia | omega))] at hx; cases hx
    have hd : xs.drop k = y :: xs.drop (k + 1) := by
      rw [List.drop_eq_getElem_cons hlt]
      rw [List.getElem?_eq_getElem hlt] at hx
      rw [Option.some.inj hx]
    rw [hd] at fw
    refine wpAny_noE (I.next k y H1 s1 A _ hx a1.S fw.1 P1 fun pv s2 r hP2 hk hg hos => ?_)
    obtain ⟨t1, t2⟩ := touch a1 ap1 hl hc (fun b o n e => (hk b n).trans e) hg hos
    have ap2 : Apart C H1 s2.heap it := ⟨ap1.at_, fun z => ap1.hid (t2 _ z), ap1.base⟩
    have x2 := x1.touch hz (fun b o n e => (hk b n).trans e) t2
    obtain ⟨oi, lki⟩ := I.look _ _ hP2
    refine wpAny_noE (wpAny_assign_Name (store_ok hn t1 r fun s3 S3 N3 x3 => ?_))
    obtain ⟨lk3, ap3⟩ := x3.apart lki ap2 hl hc
    refine wpAny_mono (hb (t1.then S3 N3) fw.2) (fun fl s4 z => ?_) fun _ _ f => f.elim
    refine absG fun Cg hCg => ?_
    obtain ⟨mfl, m4, H4, r4, S4, N4, x4, H5, l5, q4⟩ := z
    obtain ⟨lk4, ap4⟩ := x4.apart lk3 ap3 hl hc
    have xx := ((x2.trans x3).trans x4).forget l5
    refine hCg ?_; clear hCg
    have ap5 : Apart C H5 s4.heap it := ⟨(by
      cases q : H5 it with
      | none => rfl
      | some o => have := l5 _ _ q; rw [ap4.at_] at this; cases this), fun ⟨a, c, fs, o, e1, e2, e3⟩ => ap4.hid ⟨a, c, fs, o, l5 _ _ e1, e2, e3⟩, ap4.base⟩
    have go : forW (wpSs Φ mb) [i] ok (xs.drop (k + 1)) m4 H5 Q → ∃ n, n < xs.length - k ∧ ∃ k m' H', n = xs.length - k ∧ forW (wpSs Φ mb) [i] ok (xs.drop k) m' H' Q ∧ At C c env A m' H' s4 ∧ ExtS env H s.heap H' s4.heap ∧ P k s4.heap ∧ Apart C H' s4.heap it := fun q =>
      ⟨xs.length - (k + 1), by (first | lia | omega), k + 1, m4, H5, rfl, q, a.then (S4.forget l5) (N4.forget l5), xx, I.same _ _ _ hP2 (fun o e => by rw [lki] at e; cases e; exact lk4), ap5⟩
    cases fl with
    | next => cases mfl <;> first | exact r4.elim | exact go q4
    | cont => cases mfl <;> first | exact r4.elim | exact go q4
    | brk => cases mfl <;> first | exact r4.elim | exact ⟨_, rfl, .next, m4, H5, trivial, S4.forget l5, N4.forget l5, xx, q4⟩
    | ret v => cases mfl <;> first | exact r4.elim | exact ⟨_, rfl, _, m4, H5, r4, S4.forget l5, N4.forget l5, xx, q4⟩
end ML
namespace ML
open PySem PySem.W PySem.Calls PyProof.Rows PySem.SeqAt
variable {C : Cfg} {Φ : Orac} {c : Ctx} {H H' H'' H1 : Heap} {s s' s1 s2 : Shared} {h h' h'' : PHeap} {A : Around} {env : Env} {m m' : Loc}
theorem Apart.new (S : StH C H s) {o : Obj} : Apart C H (s.heap.push o) s.heap.objs.size := by
  have hz := look_size s.heap
  refine ⟨S.none_of hz, fun z => ?_, S.base_none hz⟩
  have z := Hid.same (h := s.heap) (fun _ _ _ _ o e => push_keeps _ _ _ _ e) (fun a o e => (S.rep _ _ e).look) z
  obtain ⟨ob, lk⟩ := z.look S
  rw [hz] at lk; cases lk
theorem rng_iter {a b st : Int} {t u v : Tok} {ob : Addr} {n : Nat} {f : Nat → Int} {R : Value → Shared → Prop} (S : StH C H s) (hr : IsRange s.heap ob a b st t u v) (hsm : Builtin.Range.small a b st = true) (hsz : Builtin.Range.rangeSize a b st = n) (hf : ∀ k, f k = a + k * st)
    (k : ∀ it s2 P, IterOk C ((List.range n).map fun k => V.int (f k)) (fun _ => True) it P → P 0 s2.heap → s.heap.get? it = none → Apart C H s2.heap it → StH C H s2 → Ext H s.heap H s2.heap → R (.ref it) s2) : wpAny C.M A (pyIter (.ref ob)) R NoE s := by
  refine wpAny_pyIter_range hr hsm ?_
  obtain ⟨S2, x2⟩ := S.push { cls := .type "range_iterator", data := .fields #[rawInt a, rawInt (Builtin.Range.rangeSize a b st), rawInt st] } s.toks
  refine k s.heap.objs.size _ _ (iter_range (a := a) (st := st) (n := n) (f := f) hf) ⟨Nat.zero_le _, ?_⟩ (look_size _) (Apart.new S) S2 x2
  have e1 : a + ((0 : Nat) : Int) * st = a := by simp
  have e2 : (n : Int) - ((0 : Nat) : Int) = Builtin.Range.rangeSize a b st := by rw [hsz]; simp
  rw [e1, e2]
  exact Heap.get?_push_size _ rfl
theorem src_of {e : Expr} {me : E} (he : SndE C Φ c e me) : SndSrc C Φ c e (.of me) := fun {env A m H s Q R} a hw k => by
  simp only [w_rng1, w_rng2, w_rng3, w_rngS, w_of] at hw
  refine he.then a hw fun v s1 x H1 r a1 x1 q => ?_
  unfold ofW at q
  split at q
  · rename_i p
    split at q
    · rename_i o hp
      obtain ⟨xs, e1, q⟩ := q
      cases r.ref
      have fin : o.lst? = some xs → ∀ {vs : List Value}, s1.heap.IsList p vs.toArray → wpAny C.M A (pyIter (.ref p)) R NoE s1 := by
        intro e1 vs l
        refine wpAny_pyIter_list l ?_
        obtain ⟨S2, x2⟩ := a1.S.push { cls := .type "list_iterator", data := .fields #[.ref p, .int 0 0] } s1.toks
        have hz := look_size s1.heap
        refine k s1.heap.objs.size _ xs _ H1 _ (iter_list (it := s1.heap.objs.size) (p := p) e1) ?_ (x1.alive _ hz) ⟨a1.S.none_of hz, fun z => ?_, a1.S.base_none hz⟩ (a1.on S2 x2) (x1.trans x2) q
        · exact ⟨_, Heap.get?_push_size _ rfl, rfl, rfl⟩
        · have z := Hid.same (h := s1.heap) (fun _ _ _ _ o e => push_keeps _ _ _ _ e) (fun a o e => (a1.S.rep _ _ e).look) z
          obtain ⟨ob, lk⟩ := z.look a1.S
          rw [hz] at lk; cases lk
      have rr := a1.S.rep _ _ hp
      cases o with
      | list ys => obtain ⟨vs, n, l, _⟩ := rr; exact fin e1 l.isList
      | ro ys => obtain ⟨vs, l, _⟩ := rr; exact fin e1 l
      | rng lo hi =>
        cases e1
        obtain ⟨⟨t, u, v, hr⟩, hm1, hm⟩ := rr
        refine rng_iter (n := (hi - lo).toNat) (f := fun k => lo + (k : Int)) a1.S hr (small_one hm1.1 hm1.2 hm.1 hm.2) (by rw [rangeSize_one]; split <;> (first | lia | omega)) (fun k => by simp) fun it s2 P I hP hz ap S3 x3 => ?_
        have I' : IterOk C (rngList lo hi) (fun H => H p = some (.rng lo hi)) it P := ⟨I.look, I.same, fun k x H s A R hx S _ hP kk => I.next k x H s A R hx S trivial hP kk, fun k H s A R hh hx S _ hP kk => I.stop k H s A R hh hx S trivial hP kk, I.self⟩
        exact k it s2 _ _ H1 P I' hP (x1.alive _ hz) ap (a1.on S3 x3) (x1.trans x3) q
      | _ => cases e1
    · exact q.elim
  · exact q.elim
theorem callT_ok {T : Str} {N : String} {p pos : Pos} {es : List Expr} {mes : List E} {Q : List V → Heap → Prop} {R : Value → Shared → Prop} (O : C.Ok) (hT : T ∈ bltNames) (hv : bootBuiltins T = some (.type N)) (hx : c.isGlob T = true) (hs : es.any isStar = false) (h : SndEs C Φ c es mes) (a : At C c env A m H s) (hw : wpEs Φ mes m H Q)
    (k : ∀ vs s1 xs H1, All2 RepV vs xs → At C c env A m H1 s1 → Ext H s.heap H1 s1.heap → Q xs H1 → wpAny C.M A (call (.type N) vs []) R NoE s1) : wpAny C.M A (eval (.Call (.Name T p) es [] pos) env) R NoE s := by
  have hne : T ≠ "__name__" := fun q => by subst q; exact absurd hT (by decide)
  have hnd : (T == ("__debug__" : Str)) = false := beq_eq_false_iff_ne.mpr fun q => by subst q; exact absurd hT (by decide)
  refine wpAny_Call_NameR (blt_ok O a hx hnd (O.blts _ hT) hv hne ?_)
  refine PySem.callWith_type (any_star hs) (wpAny_ext (args_ok hs h a hw) fun x s1 z => ?_)
  obtain ⟨hkw, xs, H1, _, r, S1, x1, q⟩ := z
  rw [hkw]
  exact k x.pos s1 xs H1 r (a.on S1 x1) x1 q
theorem All2.one {x : V} {vs : List Value} (h : All2 RepV vs [x]) : ∃ v, vs = [v] ∧ RepV v x := by
  cases h with | cons a r => cases r; exact ⟨_, rfl, a⟩
theorem All2.two {x y : V} {vs : List Value} (h : All2 RepV vs [x, y]) : ∃ v w, vs = [v, w] ∧ RepV v x ∧ RepV w y := by
  cases h with | cons a r => obtain ⟨w, rfl, b⟩ := r.one; exact ⟨_, _, rfl, a, b⟩
noncomputable def on1 (f : V → Heap → Prop) (vs : List V) (H : Heap) : Prop := match vs with | [x] => f x H | _ => False
noncomputable def on2 (f : V → V → Heap → Prop) (vs : List V) (H : Heap) : Prop := match vs with | [x, y] => f x y H | _ => False
theorem on1.get {f : V → Heap → Prop} {vs : List Value} {xs : List V} (h : on1 f xs H) (r : All2 RepV vs xs) : ∃ v x, vs = [v] ∧ xs = [x] ∧ RepV v x ∧ f x H := by
  unfold on1 at h
  split at h
  · obtain ⟨v, rfl, r1⟩ := r.one; exact ⟨v, _, rfl, rfl, r1, h⟩
  · exact h.elim
theorem on2.get {f : V → V → Heap → Prop} {vs : List Value} {xs : List V} (h : on2 f xs H) (r : All2 RepV vs xs) : ∃ v w x y, vs = [v, w] ∧ xs = [x, y] ∧ RepV v x ∧ RepV w y ∧ f x y H := by
  unfold on2 at h
  split at h
  · obtain ⟨v, w, rfl, r1, r2⟩ := r.two; exact ⟨v, w, _, _, rfl, rfl, r1, r2, h⟩
  · exact h.elim
theorem src_rng1 {e : Expr} {me : E} {p pos : Pos} (O : C.Ok) (hx : c.isGlob "range" = true) (hs : isStar e = false) (he : SndE C Φ c e me) : SndSrc C Φ c (.Call (.Name "range" p) [e] [] pos) (.rng1 me) := fun {env A m H s Q R} a hw k => by
  simp only [w_rng1, w_rng2, w_rng3, w_rngS, w_of] at hw
  have hw' : wpEs Φ [me] m H (on1 fun x H => rng1W x fun xs => Q xs (fun _ => True) H) := hw
  refine callT_ok O (by decide) rfl hx (by simp [hs]) (items_cons hs he items_nil) a hw' fun vs s1 xs H1 r a1 x1 q => ?_
  have g := q.get r
  clear q r
  obtain ⟨v, x, rfl, rfl, r, q⟩ := g
  unfold rng1W at q
  split at q
  · rename_i n
    obtain ⟨t, rfl⟩ := r.int
    obtain ⟨hm, q⟩ := q
    refine call_range_1 ?_
    obtain ⟨S2, x2⟩ := a1.S.push { cls := .type "range", data := .fields #[.int 0 s1.toks, .int n t, .int 1 (s1.toks + 1)] } (s1.toks + 1 + 1)
    refine rng_iter (n := n.toNat) (f := fun k => 0 + (k : Int)) S2 (IsRange.new _ _ _ _ _ _ _) (small_one (by decide) (by decide) hm.1 hm.2) (by rw [rangeSize_one]; split <;> (first | lia | omega)) (fun k => by simp) fun it s2 P I hP hz ap S3 x3 => ?_
    refine k it s2 _ _ H1 P I hP (x1.alive _ (x2.alive _ hz)) ap (a1.on S3 (x2.trans x3)) (x1.trans (x2.trans x3)) ?_
    unfold rngList at q
    rw [Int.sub_zero] at q
    exact q
  · exact q.elim
theorem src_rng2 {e1 e2 : Expr} {me1 me2 : E} {p pos : Pos} (O : C.Ok) (hx : c.isGlob "range" = true) (hs1 : isStar e1 = false) (hs2 : isStar e2 = false) (he1 : SndE C Φ c e1 me1) (he2 : SndE C Φ c e2 me2) :
    SndSrc C Φ c (.Call (.Name "range" p) [e1, e2] [] pos) (.rng2 me1 me2) := fun {env A m H s Q R} a hw k => by
  simp only [w_rng1, w_rng2, w_rng3, w_rngS, w_of] at hw
  have hw' : wpEs Φ [me1, me2] m H (on2 fun x y H => rng2W false x y fun xs => Q xs (fun _ => True) H) := hw
  refine callT_ok O (by decide) rfl hx (by simp [hs1, hs2]) (items_cons hs1 he1 (items_cons hs2 he2 items_nil)) a hw' fun vs s1 xs H1 r a1 x1 q => ?_
  have g := q.get r
  clear q r
  obtain ⟨v, w, x, y, rfl, rfl, r1, r2, q⟩ := g
  unfold rng2W at q
  split at q
  · rename_i lo n
    obtain ⟨t, rfl⟩ := r1.int
    obtain ⟨u, rfl⟩ := r2.int
    obtain ⟨hm1, hm, q⟩ := q
    refine call_range_2 ?_
    obtain ⟨S2, x2⟩ := a1.S.push { cls := .type "range", data := .fields #[.int lo t, .int n u, .int 1 s1.toks] } (s1.toks + 1)
    refine rng_iter (n := (n - lo).toNat) (f := fun k => lo + (k : Int)) S2 (IsRange.new _ _ _ _ _ _ _) (small_one hm1.1 hm1.2 hm.1 hm.2) (by rw [rangeSize_one]; split <;> (first | lia | omega)) (fun k => by simp) fun it s2 P I hP hz ap S3 x3 => ?_
    exact k it s2 _ _ H1 P I hP (x1.alive _ (x2.alive _ hz)) ap (a1.on S3 (x2.trans x3)) (x1.trans (x2.trans x3)) q
  · exact q.elim
end ML
namespace ML
open PySem PySem.W PySem.Calls PyProof.Rows PySem.SeqAt
variable {C : Cfg} {Φ : Orac} {c : Ctx} {H H' H'' H1 : Heap} {s s' s1 s2 : Shared} {h h' h'' : PHeap} {A : Around} {env : Env} {m m' : Loc}
noncomputable def notSet (e : Expr) : Bool := !isSetE e
theorem marks_no {op : CmpOp} {e : Expr} (h : notSet e = true) : behindInMarks op e = false := by
  cases e <;> first | rfl | cases h
section
variable {e e1 e2 e3 : Expr} {m1 m2 m3 : E} {pos : Pos} {op op' : CmpOp}
theorem cmp_expr {Q : PV} (h1 : SndE C Φ c e1 m1) (h2 : SndE C Φ c e2 m2) (hn : notSet e2 = true) (a : At C c env A m H s) (hw : wpE Φ (.cmp (trCmp op) m1 m2) m H Q) :
    wpAny C.M A (eval (.Compare e1 [op] [e2] pos) env) (PE C H s Q) NoE s := by
  simp only [w_var, w_lit, w_bop, w_neg, w_cmp, w_cmp2, w_and, w_or, w_not, w_call, w_meth, w_new, w_prim, w_attr, w_idx, w_slice, w_list, w_tup, w_comp] at hw
  refine wpAny_Compare1 (h1.then a hw fun v s1 x H1 r1 a1 x1 q1 => h2.then a1 q1 fun v' s2 y H2 r2 a2 x2 q2 => ?_) (marks_no hn)
  refine wpAny_ext (cmp_ok a2.S r1 r2 a.ao.room q2) fun v s3 z => ?_
  obtain ⟨r, rfl, S3, x3, q⟩ := z
  exact ⟨.bool r, H2, rfl, S3, (x1.trans x2).trans x3, q⟩
theorem cmp_test {Q : Bool → Heap → Prop} {whole : Sem Value} (h1 : SndE C Φ c e1 m1) (h2 : SndE C Φ c e2 m2) (hn : notSet e2 = true) (a : At C c env A m H s) (hw : wpT Φ (.cmp (trCmp op) m1 m2) m H Q) :
    wpAny C.M A (isTrue (.Compare e1 [op] [e2] pos) env whole) (PT C H s Q) NoE s := by
  simp only [t_not, t_and, t_or, t_cmp, t_cmp2] at hw
  refine wpAny_isTrue_Compare1 (h1.then a hw fun v s1 x H1 r1 a1 x1 q1 => h2.then a1 q1 fun v' s2 y H2 r2 a2 x2 q2 => ?_) (marks_no hn)
  refine wpAny_ext (cmp_ok a2.S r1 r2 a.ao.room q2) fun v s3 z => ?_
  obtain ⟨r, rfl, S3, x3, q⟩ := z
  exact wpAny_truthy_bool ⟨H2, S3, (x1.trans x2).trans x3, q⟩
theorem cmp2_expr {Q : PV} (h1 : SndE C Φ c e1 m1) (h2 : SndE C Φ c e2 m2) (h3 : SndE C Φ c e3 m3) (hn : notSet e3 = true) (a : At C c env A m H s) (hw : wpE Φ (.cmp2 (trCmp op) (trCmp op') m1 m2 m3) m H Q) :
    wpAny C.M A (eval (.Compare e1 [op, op'] [e2, e3] pos) env) (PE C H s Q) NoE s := by
  simp only [w_var, w_lit, w_bop, w_neg, w_cmp, w_cmp2, w_and, w_or, w_not, w_call, w_meth, w_new, w_prim, w_attr, w_idx, w_slice, w_list, w_tup, w_comp] at hw
  refine Compare_chain (h1.then a hw fun v s1 x H1 r1 a1 x1 q1 => chain_link (h2.then a1 q1 fun v' s2 y H2 r2 a2 x2 q2 => ?_)) (marks_no hn)
  refine wpAny_ext (cmp_ok a2.S r1 r2 a.ao.room q2) fun v s3 z => ?_
  obtain ⟨r, rfl, S3, x3, q⟩ := z
  refine wpAny_truthy_bool ?_
  have a3 := a2.on S3 x3
  have xx := (x1.trans x2).trans x3
  cases r with
  | false => exact ⟨.bool false, H2, rfl, S3, xx, q⟩
  | true =>
    refine chain_last (h3.then a3 q fun v'' s4 z H4 r4 a4 x4 q4 => ?_)
    refine wpAny_ext (cmp_ok a4.S r2 r4 a.ao.room q4) fun v s5 z => ?_
    obtain ⟨r, rfl, S5, x5, q⟩ := z
    exact ⟨.bool r, H4, rfl, S5, (xx.trans x4).trans x5, q⟩
theorem cmp2_test {Q : Bool → Heap → Prop} {whole : Sem Value} (h1 : SndE C Φ c e1 m1) (h2 : SndE C Φ c e2 m2) (h3 : SndE C Φ c e3 m3) (hn : notSet e3 = true) (a : At C c env A m H s) (hw : wpT Φ (.cmp2 (trCmp op) (trCmp op') m1 m2 m3) m H Q) :
    wpAny C.M A (isTrue (.Compare e1 [op, op'] [e2, e3] pos) env whole) (PT C H s Q) NoE s := by
  simp only [t_not, t_and, t_or, t_cmp, t_cmp2] at hw
  refine isTrue_chain (h1.then a hw fun v s1 x H1 r1 a1 x1 q1 => test_link (h2.then a1 q1 fun v' s2 y H2 r2 a2 x2 q2 => ?_)) (marks_no hn)
  refine wpAny_ext (cmp_ok a2.S r1 r2 a.ao.room q2) fun v s3 z => ?_
  obtain ⟨r, rfl, S3, x3, q⟩ := z
  refine wpAny_truthy_bool ?_
  have a3 := a2.on S3 x3
  have xx := (x1.trans x2).trans x3
  cases r with
  | false => exact ⟨H2, S3, xx, q⟩
  | true =>
    refine test_last (h3.then a3 q fun v'' s4 z H4 r4 a4 x4 q4 => ?_)
    refine wpAny_ext (cmp_ok a4.S r2 r4 a.ao.room q4) fun v s5 z => ?_
    obtain ⟨r, rfl, S5, x5, q⟩ := z
    exact wpAny_truthy_bool ⟨H4, S5, (xx.trans x4).trans x5, q⟩
theorem bool_expr {f : Expr → Option E} (hf : ∀ e me, f e = some me → SndE C Φ c e me) {bop : PySem.BoolOp} : ∀ {es : List Expr} {me : E}, trBool f bop es = some me → SndE C Φ c (.BoolOp bop es pos) me := by
  intro es
  induction es with
  | nil => intro me h; cases h
  | cons e es ih =>
    intro me h
    cases es with
    | nil => intro env A m H s Q a hw; exact BoolOp_one (hf _ _ h a hw)
    | cons e' es =>
      intro env A m H s Q a hw
      cases bop with
      | And =>
        simp only [trBool, Option.bind_eq_bind, Option.bind_eq_some_iff, Option.some.injEq] at h
        obtain ⟨x, e1, y, e2, rfl⟩ := h
        simp only [w_var, w_lit, w_bop, w_neg, w_cmp, w_cmp2, w_and, w_or, w_not, w_call, w_meth, w_new, w_prim, w_attr, w_idx, w_slice, w_list, w_tup, w_comp] at hw
        refine BoolOp_and (SndE.then (hf _ _ e1) a hw fun v s1 x H1 r1 a1 x1 q1 => wpAny_ext (truthy_ok a1.S r1 q1) fun r s2 z => ?_)
        obtain ⟨rfl, z⟩ := z
        cases r with
        | true => exact wpAny_ext (ih e2 a1 z) fun _ _ z => PE.ext x1 z
        | false => exact ⟨x, H1, r1, a1.S, x1, z⟩
      | Or =>
        simp only [trBool, Option.bind_eq_bind, Option.bind_eq_some_iff, Option.some.injEq] at h
        obtain ⟨x, e1, y, e2, rfl⟩ := h
        simp only [w_var, w_lit, w_bop, w_neg, w_cmp, w_cmp2, w_and, w_or, w_not, w_call, w_meth, w_new, w_prim, w_attr, w_idx, w_slice, w_list, w_tup, w_comp] at hw
        refine BoolOp_or (SndE.then (hf _ _ e1) a hw fun v s1 x H1 r1 a1 x1 q1 => wpAny_ext (truthy_ok a1.S r1 q1) fun r s2 z => ?_)
        obtain ⟨rfl, z⟩ := z
        cases r with
        | true => exact ⟨x, H1, r1, a1.S, x1, z⟩
        | false => exact wpAny_ext (ih e2 a1 z) fun _ _ z => PE.ext x1 z
theorem bool_test {f : Expr → Option E} (hf : ∀ e me, f e = some me → SndT C Φ c e me) {bop : PySem.BoolOp} {whole : Sem Value} : ∀ {es : List Expr} {me : E}, trBool f bop es = some me →
    ∀ {env : Env} {A : Around} {m : Loc} {H : Heap} {s : Shared} {Q : Bool → Heap → Prop}, At C c env A m H s → wpT Φ me m H Q → wpAny C.M A (isTrue (.BoolOp bop es pos) env whole) (PT C H s Q) NoE s := by
  intro es
  induction es with
  | nil => intro me h; cases h
  | cons e es ih =>
    intro me h env A m H s Q a hw
    cases es with
    | nil =>
      cases bop with
      | And =>
        refine isTrue_and (wpAny_ext (hf _ _ h a hw) fun r s1 z => ?_)
        cases r with
        | true => exact isTrue_and_nil z
        | false => exact z
      | Or =>
        refine isTrue_or (wpAny_ext (hf _ _ h a hw) fun r s1 z => ?_)
        cases r with
        | true => exact z
        | false => exact isTrue_or_nil z
    | cons e' es =>
      cases bop with
      | And =>
        simp only [trBool, Option.bind_eq_bind, Option.bind_eq_some_iff, Option.some.injEq] at h
        obtain ⟨x, e1, y, e2, rfl⟩ := h
        simp only [t_not, t_and, t_or, t_cmp, t_cmp2] at hw
        refine isTrue_and (SndT.then (hf _ _ e1) a hw fun r s1 H1 a1 x1 q1 => ?_)
        cases r with
        | true => exact wpAny_ext (ih e2 a1 q1) fun _ _ z => PT.ext x1 z
        | false => exact ⟨H1, a1.S, x1, q1⟩
      | Or =>
        simp only [trBool, Option.bind_eq_bind, Option.bind_eq_some_iff, Option.some.injEq] at h
        obtain ⟨x, e1, y, e2, rfl⟩ := h
        simp only [t_not, t_and, t_or, t_cmp, t_cmp2] at hw
        refine isTrue_or (SndT.then (hf _ _ e1) a hw fun r s1 H1 a1 x1 q1 => ?_)
        cases r with
        | true => exact ⟨H1, a1.S, x1, q1⟩
        | false => exact wpAny_ext (ih e2 a1 q1) fun _ _ z => PT.ext x1 z
end
end ML
namespace ML
open PySem PySem.W PySem.Calls PyProof.Rows PySem.SeqAt
variable {C : Cfg} {Φ : Orac} {c : Ctx} {H H' H'' H1 : Heap} {s s' s1 s2 : Shared} {h h' h'' : PHeap} {A : Around} {env : Env} {m m' : Loc}
theorem callB_ok {T : Str} {N : String} {p pos : Pos} {es : List Expr} {mes : List E} {Q : List V → Heap → Prop} {R : Value → Shared → Prop} (O : C.Ok) (hT : T ∈ bltNames) (hv : bootBuiltins T = some (.builtin N)) (hx : c.isGlob T = true) (hs : es.any isStar = false) (h : SndEs C Φ c es mes) (a : At C c env A m H s) (hw : wpEs Φ mes m H Q)
    (k : ∀ vs s1 xs H1, All2 RepV vs xs → At C c env A m H1 s1 → Ext H s.heap H1 s1.heap → Q xs H1 → wpAny C.M A (call (.builtin N) vs []) R NoE s1) : wpAny C.M A (eval (.Call (.Name T p) es [] pos) env) R NoE s := by
  have hne : T ≠ "__name__" := fun q => by subst q; exact absurd hT (by decide)
  have hnd : (T == ("__debug__" : Str)) = false := beq_eq_false_iff_ne.mpr fun q => by subst q; exact absurd hT (by decide)
  refine wpAny_Call_NameR (blt_ok O a hx hnd (O.blts _ hT) hv hne ?_)
  refine Calls.callWith_builtin (any_star hs) (wpAny_ext (args_ok hs h a hw) fun x s1 z => ?_)
  obtain ⟨hkw, xs, H1, _, r, S1, x1, q⟩ := z
  rw [hkw]
  exact k x.pos s1 xs H1 r (a.on S1 x1) x1 q
theorem len_fit {xs : List V} {vs : List Value} (r : All2 RepV vs xs) (hz : vs.length ≤ 2 * lim) : ((vs.toArray.size : Nat) : Int) < 2 ^ 63 := by
  have : lim = 1000000 := rfl
  simp only [List.size_toArray]; (first | lia | omega)
theorem len_call {vs : List Value} {xs : List V} {Q : PV} (hh : A.handled = none) (S : StH C H s) (r : All2 RepV vs xs) (hw : primW .len xs H Q) : wpAny C.M A (call (.builtin "len") vs []) (PE C H s Q) NoE s := by
  replace hw : lenW xs H Q := hw
  unfold lenW at hw
  split at hw
  · rename_i a
    obtain ⟨v, rfl, r1⟩ := r.one
    cases r1.ref
    split at hw
    · rename_i x hx
      obtain ⟨ys, e, q⟩ := hw
      have rr := S.rep _ _ hx
      cases x with
      | list zs => cases e; obtain ⟨us, n, l, r2, hz⟩ := rr; exact len_list l.isList (len_fit r2 hz) (PE.int S (by simpa [r2.length] using q) _)
      | ro zs => cases e; obtain ⟨us, l, r2, hz⟩ := rr; exact len_list l (len_fit r2 (by have : lim = 1000000 := rfl; (first | lia | omega))) (PE.int S (by simpa [r2.length] using q) _)
      | tup zs => cases e; obtain ⟨us, l, r2, hz⟩ := rr; exact PyProof.Rows.len_tuple l (len_fit r2 hz) (PE.int S (by simpa [r2.length] using q) _)
      | _ => cases e
    · exact hw.elim
  · exact hw.elim
theorem min_call {vs : List Value} {xs : List V} {Q : PV} (hh : A.handled = none) (S : StH C H s) (r : All2 RepV vs xs) (hw : primW .min xs H Q) : wpAny C.M A (call (.builtin "min") vs []) (PE C H s Q) NoE s := by
  replace hw : int2W (fun i j => .int (if j < i then j else i)) xs H Q := hw
  unfold int2W at hw
  split at hw
  · rename_i i j
    obtain ⟨v, w, rfl, r1, r2⟩ := r.two
    obtain ⟨t, rfl⟩ := r1.int
    obtain ⟨u, rfl⟩ := r2.int
    refine min_two_ints hh fun h' tk hk => ?_
    obtain ⟨S', x'⟩ := S.grow (s' := { s with heap := h', toks := tk }) hk rfl rfl
    refine ⟨.int (if j < i then j else i), H, ?_, S', x', hw⟩
    by_cases q : j < i
    · rw [if_pos q, if_pos q]; rfl
    · rw [if_neg q, if_neg q]; rfl
  · exact hw.elim
theorem max_call {vs : List Value} {xs : List V} {Q : PV} (hh : A.handled = none) (S : StH C H s) (r : All2 RepV vs xs) (hw : primW .max xs H Q) : wpAny C.M A (call (.builtin "max") vs []) (PE C H s Q) NoE s := by
  replace hw : int2W (fun i j => .int (if i < j then j else i)) xs H Q := hw
  unfold int2W at hw
  split at hw
  · rename_i i j
    obtain ⟨v, w, rfl, r1, r2⟩ := r.two
    obtain ⟨t, rfl⟩ := r1.int
    obtain ⟨u, rfl⟩ := r2.int
    refine max_two_ints hh fun h' tk hk => ?_
    obtain ⟨S', x'⟩ := S.grow (s' := { s with heap := h', toks := tk }) hk rfl rfl
    refine ⟨.int (if i < j then j else i), H, ?_, S', x', hw⟩
    by_cases q : i < j
    · rw [if_pos q, if_pos q]; rfl
    · rw [if_neg q, if_neg q]; rfl
  · exact hw.elim
theorem ty_val {q : Prim} {y : Str} {x : V} {Q : PV} (hq : trTy y = some q) (S : StH C H s) (hw : primW q [x] H Q) :
    ∃ N : String, bootBuiltins y = some (.type N) ∧ y ∈ bltNames ∧ (Value.type N == Value.type "builtin_function_or_method") = false ∧ (∀ v, RepV v x → s.TypeIs v N) ∧ Q (.bool true) H := by
  unfold trTy at hq
  split at hq
  · rename_i e; cases hq; cases beq_iff_eq.mp e
    cases x with
    | int i =>
      refine ⟨"int", rfl, by decide, by decide +kernel, fun v r => ?_, hw⟩
      obtain ⟨t, rfl⟩ := r.int
      exact typeIs_int _ _ _
    | _ => exact hw.elim
  · cases hq
theorem ty_one {q : Prim} {y : Str} {xs : List V} {Q : PV} (hq : trTy y = some q) (hw : primW q xs H Q) : ∃ x, xs = [x] := by
  match xs, hw with
  | [x], _ => exact ⟨x, rfl⟩
  | [], hw =>
    unfold trTy at hq
    split at hq
    · cases hq; exact hw.elim
    · cases hq
  | x :: _ :: _, hw =>
    unfold trTy at hq
    split at hq
    · cases hq; cases x <;> exact hw.elim
    · cases hq
theorem ty_core {e : Expr} {me : E} {y : Str} {op : CmpOp} {q : Prim} {neg : Bool} {p1 p2 p3 : Pos} {Q : PV} {R : Value → Shared → Prop} (O : C.Ok) (ht : c.isGlob "type" = true) (hy : c.isGlob y = true) (hs : isStar e = false) (he : SndE C Φ c e me) (hq : trTy y = some q) (hop : (op = .Is ∧ neg = false) ∨ (op = .IsNot ∧ neg = true))
    (a : At C c env A m H s) (hw : wpE Φ (.prim q [me]) m H Q) (k : ∀ s' H', StH C H' s' → Ext H s.heap H' s'.heap → Q (.bool true) H' → R (.bool (!neg)) s') :
    wpAny C.M A (eval (.Call (.Name "type" p1) [e] [] p2) env) (fun a s₁ => wpAny C.M A (eval (.Name y p3) env) (fun b s₂ => wpAny C.M A (compareOp op a b) R NoE s₂) NoE s₁) NoE s := by
  simp only [w_var, w_lit, w_bop, w_neg, w_cmp, w_cmp2, w_and, w_or, w_not, w_call, w_meth, w_new, w_prim, w_attr, w_idx, w_slice, w_list, w_tup, w_comp] at hw
  refine callT_ok (N := "type") O (by decide) rfl ht (by simp [hs]) (items_cons hs he items_nil) a hw fun vs s1 xs H1 r a1 x1 q1 => ?_
  have hone := ty_one hq q1
  obtain ⟨x, rfl⟩ := hone
  obtain ⟨v, rfl, r1⟩ := r.one
  obtain ⟨N, h1, h2, h3, h4, h5⟩ := ty_val hq a1.S q1
  refine call_type_of (h4 v r1) h3 ?_
  have hne : y ≠ "__name__" := fun q => by subst q; exact absurd h2 (by decide)
  have hnd : (y == ("__debug__" : Str)) = false := beq_eq_false_iff_ne.mpr fun q => by subst q; exact absurd h2 (by decide)
  refine blt_ok O a1 hy hnd (O.blts _ h2) h1 hne ?_
  have hb : (Value.type N == Value.type N) = true := beq_self_eq_true _
  have kk := k s1 H1 a1.S x1 h5
  rcases hop with ⟨rfl, rfl⟩ | ⟨rfl, rfl⟩
  · show wpAny C.M A (do return Value.bool (← isSame (Value.type N) (Value.type N))) _ _ _
    exact wpAny_bind (wpAny_isSame_plain rfl (wpAny_pure (by rw [hb]; exact kk)))
  · show wpAny C.M A (do return Value.bool (!(← isSame (Value.type N) (Value.type N)))) _ _ _
    exact wpAny_bind (wpAny_isSame_plain rfl (wpAny_pure (by rw [hb]; exact kk)))
theorem ty_expr {e : Expr} {me : E} {y : Str} {op : CmpOp} {q : Prim} {neg : Bool} {p1 p2 p3 pos : Pos} {Q : PV} (O : C.Ok) (ht : c.isGlob "type" = true) (hy : c.isGlob y = true) (hs : isStar e = false) (he : SndE C Φ c e me) (hq : trTy y = some q) (hop : (op = .Is ∧ neg = false) ∨ (op = .IsNot ∧ neg = true))
    (a : At C c env A m H s) (hw : wpE Φ (asNot neg (.prim q [me])) m H Q) : wpAny C.M A (eval (.Compare (.Call (.Name "type" p1) [e] [] p2) [op] [.Name y p3] pos) env) (PE C H s Q) NoE s := by
  cases neg with
  | false => exact wpAny_Compare1 (ty_core O ht hy hs he hq hop a hw fun s' H' S' x' q' => ⟨.bool true, H', rfl, S', x', q'⟩) rfl
  | true =>
    simp only [asNot] at hw
    rw [show wpE Φ (.not (.prim q [me])) m H Q = wpE Φ (.prim q [me]) m H (fun x H => truthW x H fun r => Q (.bool (!r)) H) from rfl] at hw
    exact wpAny_Compare1 (ty_core O ht hy hs he hq hop a hw fun s' H' S' x' q' => ⟨.bool false, H', rfl, S', x', q'⟩) rfl
theorem ty_test {e : Expr} {me : E} {y : Str} {op : CmpOp} {q : Prim} {neg : Bool} {p1 p2 p3 pos : Pos} {Q : Bool → Heap → Prop} {whole : Sem Value} (O : C.Ok) (ht : c.isGlob "type" = true) (hy : c.isGlob y = true) (hs : isStar e = false) (he : SndE C Φ c e me) (hq : trTy y = some q) (hop : (op = .Is ∧ neg = false) ∨ (op = .IsNot ∧ neg = true))
    (a : At C c env A m H s) (hw : wpT Φ (asNot neg (.prim q [me])) m H Q) : wpAny C.M A (isTrue (.Compare (.Call (.Name "type" p1) [e] [] p2) [op] [.Name y p3] pos) env whole) (PT C H s Q) NoE s := by
  cases neg with
  | false =>
    simp only [asNot] at hw
    rw [show wpT Φ (.prim q [me]) m H Q = wpE Φ (.prim q [me]) m H (fun x H => truthW x H fun r => Q r H) from rfl] at hw
    exact wpAny_isTrue_Compare1 (ty_core O ht hy hs he hq hop a hw fun s' H' S' x' q' => wpAny_truthy_bool ⟨H', S', x', q'⟩) rfl
  | true =>
    simp only [asNot] at hw
    rw [show wpT Φ (.not (.prim q [me])) m H Q = wpE Φ (.prim q [me]) m H (fun x H => truthW x H fun r => Q (!r) H) from rfl] at hw
    exact wpAny_isTrue_Compare1 (ty_core O ht hy hs he hq hop a hw fun s' H' S' x' q' => wpAny_truthy_bool ⟨H', S', x', q'⟩) rfl
end ML
namespace ML
open PySem PySem.W PySem.Calls PyProof.Rows PySem.SeqAt
variable {l : List (Str × NameKind)} {C : Cfg} {Φ : Orac} {c : Ctx} {H H' H'' H1 : Heap} {s s' s1 s2 : Shared} {h h' h'' : PHeap} {A : Around} {env : Env} {m m' : Loc}
theorem StH.adopt (S : StH C H s) {b : Addr} {o : O} (ap : Apart C H s.heap b) (hn : ∀ c fs, o ≠ .inst c fs) (hr : RepO C s.heap b o) : StH C (H.upd b o) s := by
  have cases' : ∀ d x, (H.upd b o) d = some x → (d = b ∧ x = o) ∨ H d = some x := fun d x e => by
    by_cases q : d = b
    · subst q; simp [Heap.upd] at e; exact .inl ⟨rfl, e.symm⟩
    · simp [Heap.upd, q] at e; exact .inr e
  have hid' : ∀ d, Hid (H.upd b o) s.heap d → Hid H s.heap d := fun d ⟨a, c, fs, x, e1, e2, e3⟩ =>
    (cases' _ _ e1).elim (fun ⟨_, q⟩ => absurd q.symm (hn c fs)) fun e1 => ⟨a, c, fs, x, e1, e2, e3⟩
  refine ⟨S.base, fun a x e => ?_, fun d f => ?_, fun d x => ?_, ?_, S.gens, S.os⟩
  · rcases cases' _ _ e with ⟨rfl, rfl⟩ | e
    · exact hr
    · exact S.rep _ _ e
  · rcases f with ⟨x, f⟩ | ⟨x, f⟩ | f
    · rcases cases' _ _ f with ⟨rfl, _⟩ | f
      · exact ap.base
      · exact S.own _ (.inl ⟨x, f⟩)
    · rcases cases' _ _ f with ⟨rfl, _⟩ | f
      · exact ap.base
      · exact S.own _ (.inr (.inl ⟨x, f⟩))
    · exact S.own _ (.inr (.inr (hid' _ f)))
  · have y := hid' _ x
    have ne : d ≠ b := fun q => ap.hid (q ▸ y)
    simp only [Heap.upd, ne, if_false]; exact S.hid _ y
  · intro a a' c fs c' fs' x x' d e1 e2
    rcases cases' _ _ e1 with ⟨_, q⟩ | e1
    · exact absurd q.symm (hn c fs)
    · rcases cases' _ _ e2 with ⟨_, q⟩ | e2
      · exact absurd q.symm (hn c' fs')
      · exact S.inj a a' c fs c' fs' x x' d e1 e2
theorem Ext.adopt (x : Ext H h H' h') {b : Addr} {o : O} (hz : h.get? b = none) (hn : ∀ c fs, o ≠ .inst c fs) : Ext H h (H'.upd b o) h' := by
  have cases' : ∀ d x, (H'.upd b o) d = some x → (d = b ∧ x = o) ∨ H' d = some x := fun d x e => by
    by_cases q : d = b
    · subst q; simp [Heap.upd] at e; exact .inl ⟨rfl, e.symm⟩
    · simp [Heap.upd, q] at e; exact .inr e
  refine ⟨x.keep, x.alive, fun d f => ?_, fun d y e => ?_⟩
  · rcases f with ⟨y, f⟩ | ⟨y, f⟩ | ⟨a, c, fs, y, e1, e2, e3⟩
    · rcases cases' _ _ f with ⟨rfl, _⟩ | f
      · exact .inr hz
      · exact x.fresh _ (.inl ⟨y, f⟩)
    · rcases cases' _ _ f with ⟨rfl, _⟩ | f
      · exact .inr hz
      · exact x.fresh _ (.inr (.inl ⟨y, f⟩))
    · rcases cases' _ _ e1 with ⟨_, q⟩ | e1
      · exact absurd q.symm (hn c fs)
      · exact x.fresh _ (.inr (.inr ⟨a, c, fs, y, e1, e2, e3⟩))
  · rcases cases' _ _ e with ⟨rfl, _⟩ | e
    · exact .inr hz
    · exact x.dom _ _ e
theorem Ext.touch {it : Addr} (x : Ext H h H' h') (hz : h.get? it = none) (hk : ∀ b o, b ≠ it → h'.get? b = some o → h''.get? b = some o) (hh : ∀ b, Hid H' h'' b → Hid H' h' b) : Ext H h H' h'' where
  keep b o e n := hk b o (fun q => by rw [q, hz] at e; cases e) (x.keep b o e n)
  alive b e := by
    by_cases q : b = it
    · rw [q]; exact hz
    · refine x.alive b ?_
      cases z : h'.get? b with
      | none => rfl
      | some o => rw [hk b o q z] at e; cases e
  fresh b f := x.fresh b (by
    rcases f with f | f | f
    · exact .inl f
    · exact .inr (.inl f)
    · exact .inr (.inr (hh _ f)))
  dom b o e := x.dom b o e
theorem Apart.ext (x : Ext H h H' h') {b : Addr} {o : Obj} (e : h.get? b = some o) (a : Apart C H h b) : h'.get? b = some o ∧ Apart C H' h' b :=
  let ⟨p, q, r⟩ := x.apart e a.at_ a.hid
  ⟨p, q, r, a.base⟩
theorem Apart.le {b : Addr} (a : Apart C H h b) (l : H'.le H) : Apart C H' h b := ⟨(by
    cases q : H' b with
    | none => rfl
    | some o => have := l _ _ q; rw [a.at_] at this; cases this), fun ⟨d, c, fs, o, e1, e2, e3⟩ => a.hid ⟨d, c, fs, o, l _ _ e1, e2, e3⟩, a.base⟩
theorem Apart.hidMono {b : Addr} (a : Apart C H h b) (hh : ∀ b, Hid H h' b → Hid H h b) : Apart C H h' b := ⟨a.at_, fun z => a.hid (hh _ z), a.base⟩
theorem Apart.fresh (S : StH C H s) {b : Addr} (hz : s.heap.get? b = none) : Apart C H s.heap b := ⟨S.none_of hz, fun z => (by
  obtain ⟨ob, lk⟩ := z.look S
  rw [hz] at lk; cases lk), S.base_none hz⟩
theorem hid_grow (S : StH C H s) (hk : ∀ b o, s.heap.get? b = some o → h'.get? b = some o) : ∀ b, Hid H h' b → Hid H s.heap b := fun b z => z.same (fun _ _ _ _ o e => hk _ _ e) fun a o e => (S.rep _ _ e).look
theorem store_local {x : Str} {pv : Value} {v : V} {i : Nat} {R : Unit → Shared → Prop} (hk : c.kinds.lookup x = some .local) (hn : c.ν.lookup x = some i) (a : At C c env A m H s) (r : RepV pv v)
    (k : ∀ s', At C c env A (m.set i (some v)) H s' → (∀ b, b ≠ env.locals → s'.heap.get? b = s.heap.get? b) → s'.gens = s.gens → s'.os = s.os → (∀ b, Hid H s'.heap b → Hid H s.heap b) → R () s') : wpAny C.M A (storeName env x pv) R NoE s := by
  have hi : i < m.length := by rw [a.N.len]; exact a.eo.bnd _ _ hn
  have self : OptRep (some pv) ((m.set i (some v))[i]?.join) := by rw [List.getElem?_set_self hi]; exact r
  refine absG fun Cg hCg => ?_
  obtain ⟨mm, hN, hm⟩ := a.N.ns
  refine hCg ?_; clear hCg
  refine wpAny_storeName_local (a.eo.kloc _ hk) hN (fun h' hN' hs => ?_) (by rw [a.eo.kind]; rfl)
  have Q1 := quiet_one (s' := { s with heap := h', toks := s.toks + 1 }) a.S a.N.apL (fun b n => hs.2 b n) (let ⟨o, _, _, ho, _⟩ := hN'; ⟨o, ho⟩) rfl rfl
  refine k _ ⟨a.eo, a.ao, Q1.1, ⟨by rw [List.length_set]; exact a.N.len, ⟨_, hN', fun y j hy hky => ?_⟩, fun y j hy hky => ?_, ⟨a.N.apL.1, fun z => a.N.apL.2.1 ((Q1.2 _).mp z), a.N.apL.2.2⟩, fun y b e => ?_, a.N.injC⟩⟩ (fun b n => hs.2 b n) rfl rfl fun b z => (Q1.2 b).mp z
  · by_cases q : y = x
    · subst q; rw [hn] at hy; cases hy; rw [if_pos rfl]; exact self
    · rw [if_neg q]
      have : j ≠ i := fun z => q (a.eo.inj _ _ _ hy (z ▸ hn))
      exact optRep_set hi this (hm y j hy hky)
  · refine absG fun Cg hCg => ?_
    obtain ⟨ca, ov, e1, e2, e3⟩ := a.N.cells y j hy hky
    obtain ⟨n1, n2, n3, n4, _⟩ := a.N.apC _ _ e1
    refine hCg ?_; clear hCg
    have : j ≠ i := fun z => by
      have := a.eo.inj _ _ _ hy (z ▸ hn)
      subst this
      rcases hky with q | q <;> (rw [hk] at q; cases q)
    exact ⟨ca, ov, e1, e2.sameBut hs n4, optRep_set hi this e3⟩
  · refine absG fun Cg hCg => ?_
    obtain ⟨n1, n2, n3, n4, o, lk⟩ := a.N.apC _ _ e
    refine hCg ?_; clear hCg
    exact ⟨n1, fun z => n2 ((Q1.2 _).mp z), n3, n4, o, (hs.2 _ n4).trans lk⟩
noncomputable def closOf (env : Env) : List (Str × NameKind) → List (Str × Addr) → List (Str × Addr)
  | [], acc => acc
  | (x, k) :: r, acc => closOf env r (if k == .free then (x, (env.cells.lookup x).getD 0) :: acc else acc)
theorem closOf_ok {scope : Scope} (h : ∀ x, (x, NameKind.free) ∈ scope.names → ∃ a, env.cells.lookup x = some a) : closureFor scope env = pure (closOf env scope.names []) := by
  unfold closureFor
  have key : ∀ (l : List (Str × NameKind)) (acc : List (Str × Addr)), (∀ x, (x, NameKind.free) ∈ l → ∃ a, env.cells.lookup x = some a) →
      (forIn l acc fun (x : Str × NameKind) (cs : List (Str × Addr)) => (match x with | (name, kind) => (if kind == .free then do let y ← cellOf env name; pure (ForInStep.yield ((name, y) :: cs)) else pure (ForInStep.yield cs)) : Sem (ForInStep (List (Str × Addr))))) = pure (closOf env l acc) := by
    intro l
    induction l with
    | nil => intro acc _; rfl
    | cons p r ih =>
      intro acc hl
      obtain ⟨x, k⟩ := p
      rw [List.forIn_cons]
      dsimp only
      by_cases hk : (k == NameKind.free) = true
      · obtain ⟨a, ha⟩ := hl x (by rw [beq_iff_eq.mp hk]; exact .head _)
        rw [if_pos hk]
        unfold closOf
        rw [if_pos hk, ha]
        have e : cellOf env x = pure a := by unfold cellOf; rw [ha]
        rw [e]
        exact ih _ fun y hy => hl y (.tail _ hy)
      · rw [if_neg hk]
        unfold closOf
        rw [if_neg hk]
        exact ih _ fun y hy => hl y (.tail _ hy)
  have k := key scope.names [] h
  exact congrArg (fun z : Sem (List (Str × Addr)) => z >>= fun cs => pure cs) k
theorem closOf_mem : ∀ {l : List (Str × NameKind)} {acc : List (Str × Addr)} {P : Str × Addr → Prop}, (∀ x, (x, NameKind.free) ∈ l → P (x, (env.cells.lookup x).getD 0)) → (∀ y ∈ acc, P y) → ∀ y ∈ closOf env l acc, P y
  | [], acc, P, _, h2 => h2
  | (x, k) :: r, acc, P, h1, h2 => by
    unfold closOf
    refine closOf_mem (fun y hy => h1 y (.tail _ hy)) ?_
    by_cases hk : (k == NameKind.free) = true
    · rw [if_pos hk]
      intro y hy
      cases hy with
      | head => exact h1 x (by rw [beq_iff_eq.mp hk]; exact .head _)
      | tail _ hy => exact h2 y hy
    · rw [if_neg hk]; exact h2
theorem closOf_sub : ∀ {l : List (Str × NameKind)} {acc : List (Str × Addr)} {y : Str × Addr}, y ∈ acc → y ∈ closOf env l acc
  | [], _, _, h => h
  | (x, k) :: r, acc, y, h => by
    unfold closOf
    refine closOf_sub ?_
    by_cases hk : (k == NameKind.free) = true
    · rw [if_pos hk]; exact .tail _ h
    · rw [if_neg hk]; exact h
theorem closOf_has : ∀ {l : List (Str × NameKind)} {acc : List (Str × Addr)} {x : Str}, (x, NameKind.free) ∈ l → (x, (env.cells.lookup x).getD 0) ∈ closOf env l acc
  | (y, k) :: r, acc, x, h => by
    unfold closOf
    cases h with
    | head => rw [if_pos (by rfl)]; exact closOf_sub (.head _)
    | tail _ h => exact closOf_has h
theorem lookup_mem {α : Type} : ∀ {l : List (Str × α)} {x : Str} {a : α}, l.lookup x = some a → (x, a) ∈ l
  | (y, b) :: r, x, a, h => by
    simp only [List.lookup] at h
    split at h
    · rename_i q; cases h; rw [beq_iff_eq.mp q]; exact .head _
    · exact .tail _ (lookup_mem h)
theorem lookup_some {α : Type} : ∀ {l : List (Str × α)} {x : Str} {a : α}, (x, a) ∈ l → ∃ b, l.lookup x = some b
  | (y, b) :: r, x, a, h => by
    simp only [List.lookup]
    split
    · exact ⟨_, rfl⟩
    · rename_i q
      cases h with
      | head => simp at q
      | tail _ h => exact lookup_some h
theorem clos_lookup (h : ∀ x, (x, NameKind.free) ∈ l → ∃ a, env.cells.lookup x = some a) {x : Str} {a : Addr} (e : (closOf env l []).lookup x = some a) : env.cells.lookup x = some a := by
  refine closOf_mem (P := fun y => env.cells.lookup y.1 = some y.2) (fun x hx => ?_) (fun _ h => by cases h) _ (lookup_mem e)
  obtain ⟨a, ha⟩ := h x hx
  show env.cells.lookup x = some ((env.cells.lookup x).getD 0)
  rw [ha]; rfl
theorem clos_lookup' (h : ∀ x, (x, NameKind.free) ∈ l → ∃ a, env.cells.lookup x = some a) {x : Str} {a : Addr} (hx : (x, NameKind.free) ∈ l) (e : env.cells.lookup x = some a) : (closOf env l []).lookup x = some a := by
  obtain ⟨b, hb⟩ := lookup_some (closOf_has (env := env) (acc := []) hx)
  have := clos_lookup h hb
  rw [e] at this; cases this; exact hb
theorem lookup_relabel {env : Env} : ∀ {names : List (Str × NameKind)} {x : Str} {k : NameKind}, names.lookup x = some k →
    (names.map fun (n, k) => if (k == NameKind.free && env.scope.kind == .function && env.kindOf n == some .cell) then (n, NameKind.cell) else (n, k)).lookup x = some k ∨
    (k = .free ∧ (names.map fun (n, k) => if (k == NameKind.free && env.scope.kind == .function && env.kindOf n == some .cell) then (n, NameKind.cell) else (n, k)).lookup x = some .cell)
  | (n, k') :: r, x, k, h => by
    have ih := @lookup_relabel env r x k
    rw [List.map_cons]
    cases hx : x == n with
    | true =>
      simp only [List.lookup_cons, hx] at h
      cases h
      dsimp only
      by_cases hc : (k' == NameKind.free && env.scope.kind == .function && env.kindOf n == some .cell) = true
      · rw [if_pos hc]
        simp only [Bool.and_eq_true] at hc
        exact .inr ⟨beq_iff_eq.mp hc.1.1, by simp only [List.lookup_cons, hx]⟩
      · rw [if_neg hc]; exact .inl (by simp only [List.lookup_cons, hx])
    | false =>
      simp only [List.lookup_cons, hx] at h
      dsimp only
      by_cases hc : (k' == NameKind.free && env.scope.kind == .function && env.kindOf n == some .cell) = true
      · rw [if_pos hc]; simp only [List.lookup_cons, hx]; exact ih h
      · rw [if_neg hc]; simp only [List.lookup_cons, hx]; exact ih h
structure CompOk (c : Ctx) (sc : Scope) (x : Str) : Prop where
  kind : sc.kind = .function
  own : sc.names.lookup x = some .local
  cell : ∀ y ∈ sc.names, y.2 ≠ .cell
  loc : ∀ y ∈ sc.names, y.2 = .local → sc.names.lookup y.1 = some .local
  free : ∀ y, (y, NameKind.free) ∈ sc.names → ∃ i, c.ν.lookup y = some i ∧ isCell c y
  alone : ∀ y ∈ sc.names, y.2 = .local → y.1 = x ∨ c.ν.lookup y.1 = none
structure CompB (c : Ctx) (sc : Scope) : Prop where
  kind : sc.kind = .function
  loc : ∀ y ∈ sc.names, y.2 = .local → sc.names.lookup y.1 = some .local
  free : ∀ y, (y, NameKind.free) ∈ sc.names → ∃ i, c.ν.lookup y = some i ∧ isCell c y
theorem CompOk.toB {sc : Scope} {x : Str} (K : CompOk c sc x) : CompB c sc := ⟨K.kind, K.loc, K.free⟩
theorem compOk_ok {sc : Scope} {x : Str} (h : compOk c sc x = true) : CompOk c sc x := by
  unfold compOk at h
  simp only [Bool.and_eq_true] at h
  refine absG fun Cg hCg => ?_
  obtain ⟨⟨h1, h2⟩, h3⟩ := h
  refine hCg ?_; clear hCg
  rw [List.all_eq_true] at h3
  refine ⟨by simpa using h1, beq_iff_eq.mp h2, fun y hy q => ?_, fun y hy q => ?_, fun y hy => ?_, fun y hy q => ?_⟩
  · have := h3 y hy
    unfold compName at this
    rw [q] at this
    cases this
  · have := h3 y hy
    unfold compName at this
    rw [q] at this
    simp only [Bool.and_eq_true, Bool.or_eq_true, beq_iff_eq] at this
    exact this.1
  · have := h3 _ hy
    unfold compName at this
    simp only [Bool.and_eq_true, Bool.or_eq_true, beq_iff_eq] at this
    obtain ⟨i, hi⟩ := Option.isSome_iff_exists.mp this.1
    exact ⟨i, hi, this.2⟩
  · have := h3 y hy
    unfold compName at this
    rw [q] at this
    simp only [Bool.and_eq_true, Bool.or_eq_true, beq_iff_eq] at this
    exact this.2
theorem inner_at {sc : Scope} {x : Str} {Cf : Addr} {mm : Str → Option Value} (K : CompOk c sc x) (a : At C c env A m H s) (hN : s.heap.Ns Cf mm) (hx : mm x = none) (ap : Apart C H s.heap Cf) (hl : Cf ≠ env.locals) (hc : ∀ x, env.cells.lookup x ≠ some Cf) :
    At C (c.inner1 sc x) (compEnvC sc (closOf env sc.names []) Cf env) A (m ++ [none]) H s := by
  have hfree : ∀ y, (y, NameKind.free) ∈ sc.names → ∃ b, env.cells.lookup y = some b := fun y hy => by
    refine absG fun Cg hCg => ?_
    obtain ⟨i, hi, hk⟩ := K.free y hy
    obtain ⟨b, ov, e, _⟩ := a.N.cells y i hi hk
    refine hCg ?_; clear hCg
    exact ⟨b, e⟩
  have hnu : ∀ y i, (c.inner1 sc x).ν.lookup y = some i → (y = x ∧ i = c.next) ∨ (y ≠ x ∧ c.ν.lookup y = some i) := fun y i e => by
    simp only [Ctx.inner1, List.lookup] at e
    split at e
    · rename_i q; cases e; exact .inl ⟨beq_iff_eq.mp q, rfl⟩
    · rename_i q; exact .inr ⟨by simpa using q, e⟩
  have hkf : ∀ y, isCell (c.inner1 sc x) y → (y, NameKind.free) ∈ sc.names := fun y q => by
    rcases q with q | q
    · exact absurd rfl (K.cell _ (lookup_mem q))
    · exact lookup_mem q
  have hkl : ∀ y i, (c.inner1 sc x).ν.lookup y = some i → isCell (c.inner1 sc x) y → c.ν.lookup y = some i ∧ isCell c y := fun y i e q => by
    rcases hnu y i e with ⟨rfl, _⟩ | ⟨_, e'⟩
    · rcases q with q | q <;> (have q : sc.names.lookup y = some _ := q; rw [K.own] at q; cases q)
    · refine absG fun Cg hCg => ?_
      obtain ⟨j, hj, hk⟩ := K.free y (hkf y q)
      refine hCg ?_; clear hCg
      rw [hj] at e'; cases e'; exact ⟨hj, hk⟩
  refine ⟨⟨a.eo.glob, a.eo.blts, K.kind, fun y e => ?_, fun y e => lookup_relabel_local e, fun y e => ?_, fun y e => ?_, fun y z i e1 e2 => ?_, fun y i e => ?_
    ⟩, ⟨a.ao.hd, a.ao.dp, a.ao.un⟩, a.S,
    ⟨?_, ⟨mm, hN, fun y i e k => ?_⟩, fun y i e k => ?_, ⟨ap.at_, ap.hid, ap.base⟩, fun y b e => ?_, fun y z b e1 e2 => ?_⟩⟩
  · exact (lookup_relabel e).elim id fun q => by cases q.1
  · exact absurd rfl (K.cell _ (lookup_mem e))
  · exact (lookup_relabel e).elim .inl fun q => .inr q.2
  · rcases hnu y i e1 with ⟨rfl, rfl⟩ | ⟨_, e1'⟩
    · rcases hnu z _ e2 with ⟨rfl, _⟩ | ⟨_, e2'⟩
      · rfl
      · exact absurd (a.eo.bnd _ _ e2') (Nat.lt_irrefl _)
    · rcases hnu z _ e2 with ⟨rfl, rfl⟩ | ⟨_, e2'⟩
      · exact absurd (a.eo.bnd _ _ e1') (Nat.lt_irrefl _)
      · exact a.eo.inj _ _ _ e1' e2'
  · rcases hnu y i e with ⟨_, rfl⟩ | ⟨_, e⟩
    · exact Nat.lt_succ_self _
    · exact Nat.lt_succ_of_lt (a.eo.bnd _ _ e)
  · rw [List.length_append, a.N.len]; rfl
  · rcases hnu y i e with ⟨rfl, rfl⟩ | ⟨n, e'⟩
    · rw [hx, ← a.N.len, List.getElem?_append_right (Nat.le_refl _), Nat.sub_self]; trivial
    · rcases K.alone _ (lookup_mem k) rfl with q | q
      · exact absurd q n
      · rw [show c.ν.lookup y = none from q] at e'; cases e'
  · obtain ⟨e', k'⟩ := hkl y i e k
    refine absG fun Cg hCg => ?_
    obtain ⟨b, ov, e1, e2, e3⟩ := a.N.cells y i e' k'
    refine hCg ?_; clear hCg
    refine ⟨b, ov, clos_lookup' hfree (hkf y k) e1, e2, ?_⟩
    rw [List.getElem?_append_left (by rw [a.N.len]; exact a.eo.bnd _ _ e')]; exact e3
  · refine absG fun Cg hCg => ?_
    obtain ⟨n1, n2, n3, n4, o, lk⟩ := a.N.apC _ _ (clos_lookup hfree e)
    refine hCg ?_; clear hCg
    exact ⟨n1, n2, n3, fun q => hc y (by have z := clos_lookup hfree e; rw [show b = Cf from q] at z; exact z), o, lk⟩
  · exact a.N.injC _ _ _ (clos_lookup hfree e1) (clos_lookup hfree e2)
end ML
namespace ML
open PySem PySem.W PySem.Calls PyProof.Rows PySem.SeqAt
variable {C : Cfg} {Φ : Orac} {c : Ctx} {H H' H'' H1 : Heap} {s s' s1 s2 : Shared} {h h' h'' : PHeap} {A : Around} {env : Env} {m m' : Loc}
noncomputable def SndC (C : Cfg) (Φ : Orac) (c : Ctx) (ifs : List Expr) (mc : Option E) : Prop :=
  (ifs = [] ∧ mc = none) ∨ ∃ t mt, ifs = [t] ∧ mc = some mt ∧ SndT C Φ c t mt
theorem SndC.then {ifs : List Expr} {mc : Option E} {Q : Bool → Heap → Prop} {R : Bool → Shared → Prop} (h : SndC C Φ c ifs mc) (a : At C c env A m H s) (hw : wpC Φ mc m H Q)
    (k : ∀ r s1 H1, At C c env A m H1 s1 → Ext H s.heap H1 s1.heap → Q r H1 → R r s1) :
    wpAny C.M A (forIn ifs true fun c r => if r = true then do let ok ← isTrue c env (eval c env); pure (ForInStep.yield ok) else pure (ForInStep.yield r)) R NoE s := by
  rcases h with ⟨rfl, rfl⟩ | ⟨t, mt, rfl, rfl, ht⟩
  · simp only [w_cnone, w_csome] at hw
    exact wpAny_tests_nil (k true s H a Ext.refl hw)
  · simp only [w_cnone, w_csome] at hw
    exact wpAny_tests_one (SndT.then ht a hw k)
noncomputable abbrev CompInv (C : Cfg) (Φ : Orac) (ci : Ctx) (ce : Env) (A : Around) (m : Loc) (H : Heap) (h : PHeap) (Q : PV) (melt : E) (mc : Option E) (ok : Heap → Prop) (P : Nat → PHeap → Prop) (xs : List V) (it D : Addr) (n : Nat) (s' : Shared) : Prop :=
  ∃ k acc H' ov vs nn, n = xs.length - k ∧ compW (wpE Φ melt) (wpC Φ mc) 1 ok m (xs.drop k) acc H' Q ∧ At C ci ce A (m ++ [ov]) H' s' ∧ Ext H h H' s'.heap ∧ P k s'.heap ∧
    Apart C H' s'.heap it ∧ Apart C H' s'.heap D ∧ IsL s'.heap D vs.toArray nn ∧ All2 RepV vs acc
theorem hfree_of {sc : Scope} (K : CompB c sc) (N : EnvSt C c env m H h) : ∀ y, (y, NameKind.free) ∈ sc.names → ∃ b, env.cells.lookup y = some b := fun y hy => by
  refine absG fun Cg hCg => ?_
  obtain ⟨i, hi, hk⟩ := K.free y hy
  obtain ⟨b, ov, e, _⟩ := N.cells y i hi hk
  refine hCg ?_; clear hCg
  exact ⟨b, e⟩
theorem comp_loop {elt iter : Expr} {x : Str} {px pos : Pos} {ifs : List Expr} {sc : Scope} {melt : E} {mc : Option E} {Q : PV} {RR : Value → Addr → Result → Shared → Prop} {ci : Ctx} {ce : Env} {W : Addr}
    (hst : ∀ {m' : Loc} {H' : Heap} {s5 : Shared} {pv : Value} {y : V} {R : Unit → Shared → Prop}, At C ci ce A m' H' s5 → RepV pv y → (∀ s', At C ci ce A (m'.set m.length (some y)) H' s' → (∀ b, b ≠ W → s'.heap.get? b = s5.heap.get? b) → s'.gens = s5.gens → s'.os = s5.os → (∀ b, Hid H' s'.heap b → Hid H' s5.heap b) → R () s') → wpAny C.M A (storeName ce x pv) R NoE s5)
    (helt : SndE C Φ ci elt melt) (hc : SndC C Φ ci ifs mc) (a : At C c env A m H s)
    (hRR : ∀ D Cf s' H', s.heap.get? Cf = none → D ≠ Cf → (∃ mm, s'.heap.Ns Cf mm) → Apart C H' s'.heap Cf → StH C H' s' → Ext H s.heap H' s'.heap → Q (.ref D) H' → RR (.ref D) Cf (.ok .next) s')
    {it D : Addr} {s2 s3 : Shared} {xs : List V} {ok : Heap → Prop} {H2 : Heap} {P : Nat → PHeap → Prop} (I : IterOk C xs ok it P) (hP : P 0 s2.heap) (hz : s.heap.get? it = none) (ap : Apart C H2 s2.heap it) (a2 : At C c env A m H2 s2) (x2 : Ext H s.heap H2 s2.heap) (q2 : compW (wpE Φ melt) (wpC Φ mc) 1 ok m xs [] H2 Q)
    (hDC : D ≠ ce.locals) (hDz : s2.heap.get? D = none) (hCz : s2.heap.get? ce.locals = none) (hWz : s2.heap.get? W = none) (hDW : D ≠ W) (hcit : ∀ y, ce.cells.lookup y ≠ some it) (hcD : ∀ y, ce.cells.lookup y ≠ some D) (hk3 : ∀ b o, s2.heap.get? b = some o → s3.heap.get? b = some o) (x3 : Ext H2 s2.heap H2 s3.heap) (a3 : At C ci ce A (m ++ [none]) H2 s3) (lkD : s3.heap.get? D = some { cls := .type "list", dict := none, data := .seq ([] : List Value).toArray }) :
    codeAny C.M A (.compLoop (.ListComp elt [⟨.Name x px, iter, ifs, 0⟩] sc pos) 0 (.ref it) (.ref D) ce) (RR (.ref D) ce.locals) s3 := by
  obtain ⟨oit, lkit⟩ := I.look _ _ hP
  have hDit : D ≠ it := fun q => by rw [q, lkit] at hDz; cases hDz
  have hCit : ce.locals ≠ it := fun q => by rw [q, lkit] at hCz; cases hCz
  have zD : s.heap.get? D = none := x2.alive _ hDz
  have zC : s.heap.get? ce.locals = none := x2.alive _ hCz
  have hWit : W ≠ it := fun q => by rw [q, lkit] at hWz; cases hWz
  have zW : s.heap.get? W = none := x2.alive _ hWz
  have hid3 := hid_grow a2.S hk3
  have apD : Apart C H2 s3.heap D := (Apart.fresh a2.S hDz).hidMono hid3
  refine codeAny_compLoop_tests (CompInv C Φ ci ce A m H s.heap Q melt mc ok P xs it D) (fun n s4 hI => ?_) _
    ⟨0, [], H2, none, [], 0, rfl, q2, a3, x2.trans x3, I.same _ _ _ hP (fun o e => hk3 _ _ e), ap.hidMono hid3, apD, lkD, .nil⟩
  refine absG fun Cg hCg => ?_
  obtain ⟨k, acc, H4, ov, vs, nn, rfl, cw, a4, x4, P4, ap4, apD4, l4, r4⟩ := hI
  have apC4 : Apart C H4 s4.heap ce.locals := ⟨a4.N.apL.1, a4.N.apL.2.1, a4.N.apL.2.2⟩
  refine hCg ?_; clear hCg
  cases hx : xs[k]? with
  | none =>
    have hlen : xs.length ≤ k := List.getElem?_eq_none_iff.mp hx
    rw [List.drop_eq_nil_of_le hlen] at cw
    refine absG fun Cg hCg => ?_
    obtain ⟨hok, hal, cw⟩ := cw
    refine hCg ?_; clear hCg
    refine wpAny_noE (I.stop k H4 s4 A _ a.ao.hd hx a4.S hok P4 fun s5 hk hg hos => ?_)
    obtain ⟨t1, t2⟩ := touch a4 ap4 (fun q => hCit q.symm) hcit hk hg hos
    have x5 := x4.touch hz hk t2
    have l5 : IsL s5.heap D vs.toArray nn := hk _ _ hDit l4
    have apD5 := apD4.hidMono t2
    have S5 := t1.S.adopt (o := .list acc) apD5 (fun _ _ q => by cases q) ⟨vs, nn, l5, r4, by rw [r4.length]; (first | lia | omega)⟩
    have x6 := x5.adopt (o := .list acc) zD (fun _ _ q => by cases q)
    have apC5 := apC4.hidMono t2
    refine hRR D ce.locals s5 _ zC hDC (let ⟨mm, hm, _⟩ := t1.N.ns; ⟨mm, hm⟩) ⟨?_, fun z => apC5.hid ?_, apC5.base⟩ S5 x6 (cw D apD5.at_)
    · simp only [Heap.upd, Ne.symm hDC, if_false]; exact apC5.at_
    · refine absG fun Cg hCg => ?_
      obtain ⟨d, ci, fs, o, e1, e2, e3⟩ := z
      refine hCg ?_; clear hCg
      by_cases q : d = D
      · subst q; simp [Heap.upd] at e1
      · simp [Heap.upd, q] at e1; exact ⟨d, ci, fs, o, e1, e2, e3⟩
  | some y =>
    have hlt : k < xs.length := by
      by_cases q : k < xs.length
      · exact q
      · rw [List.getElem?_eq_none (by (first | lia | omega))] at hx; cases hx
    have hd : xs.drop k = y :: xs.drop (k + 1) := by
      rw [List.drop_eq_getElem_cons hlt]
      rw [List.getElem?_eq_getElem hlt] at hx
      rw [Option.some.inj hx]
    rw [hd] at cw
    refine absG fun Cg hCg => ?_
    obtain ⟨hok, hal, cw⟩ := cw
    refine hCg ?_; clear hCg
    refine wpAny_noE (I.next k y H4 s4 A _ hx a4.S hok P4 fun pv s5 r5 P5 hk hg hos => ?_)
    have hk' : ∀ b o, b ≠ it → s4.heap.get? b = some o → s5.heap.get? b = some o := fun b o n e => (hk b n).trans e
    obtain ⟨t1, t2⟩ := touch a4 ap4 (fun q => hCit q.symm) hcit hk' hg hos
    have x5 := x4.touch hz hk' t2
    have l5 : IsL s5.heap D vs.toArray nn := hk' _ _ hDit l4
    have apD5 := apD4.hidMono t2
    have ap5 := ap4.hidMono t2
    obtain ⟨oi5, lki5⟩ := I.look _ _ P5
    refine wpAny_noE (wpAny_assign_Name (hst t1 r5 fun s6 a6 hk6 hg6 hos6 hid6 => ?_))
    have em : (m ++ [ov]).set m.length (some y) = m ++ [some y] := by rw [List.set_append_right _ _ (Nat.le_refl _), Nat.sub_self]; rfl
    rw [em] at a6
    have hk6' : ∀ b o, b ≠ W → s5.heap.get? b = some o → s6.heap.get? b = some o := fun b o n e => (hk6 b n).trans e
    have x6 := x5.touch zW hk6' hid6
    have l6 : IsL s6.heap D vs.toArray nn := hk6' _ _ hDW l5
    have apD6 := apD5.hidMono hid6
    have ap6 := ap5.hidMono hid6
    have lki6 : s6.heap.get? it = some oi5 := hk6' _ _ (Ne.symm hWit) lki5
    refine wpAny_noE (hc.then a6 cw fun r s7 H7 a7 x7 q7 => ?_)
    obtain ⟨lD7, apD7⟩ := apD6.ext x7 l6
    obtain ⟨li7, ap7⟩ := ap6.ext x7 lki6
    cases r with
    | false =>
      exact ⟨xs.length - (k + 1), by (first | lia | omega), k + 1, acc, H7, some y, vs, nn, rfl, q7, a7, x6.trans x7, I.same _ _ _ P5 (fun o e => by rw [lki5] at e; cases e; exact li7), ap7, apD7, lD7, r4⟩
    | true =>
      refine wpAny_noE (SndE.then helt a7 q7 fun v s8 z H8 r8 a8 x8 q8 => ?_)
      refine absG fun Cg hCg => ?_
      obtain ⟨H9, l9, q9⟩ := q8
      obtain ⟨lD8, apD8⟩ := apD7.ext x8 lD7
      obtain ⟨li8, ap8⟩ := ap7.ext x8 li7
      have a9 : At C ci ce A (m ++ [some y]) H9 s8 := ⟨a8.eo, a8.ao, a8.S.forget l9, a8.N.forget l9⟩
      have lD8 : IsL s8.heap D vs.toArray nn := lD8
      refine hCg ?_; clear hCg
      refine wpAny_noE (call_meets F.slot_list_append ⟨_, lD8, rfl⟩ F.entry_list_append (F.args_list_append_2 _ _) (list_append D vs.toArray nn v (by simp only [List.size_toArray, r4.length]; exact sizeLine_lim hal)) ⟨lD8, ?_⟩)
      obtain ⟨n', en⟩ := mapSeq_list (items := vs.toArray) (n := nn) (fun x => x.push v)
      have hkD : ∀ b o, b ≠ D → s8.heap.get? b = some o → (s8.heap.update D (Obj.mapSeq fun x => x.push v)).get? b = some o := fun b o n e => (Heap.get?_update_other _ _ (Ne.symm n)).trans e
      have lD9 : (s8.heap.update D (Obj.mapSeq fun x => x.push v)).get? D = some { cls := .type "list", dict := none, data := .seq (vs.toArray.push v) n', slots := #[] } := by
        rw [Heap.get?_update_self _ lD8 (by rw [en]; rfl), en]
      obtain ⟨u1, u2⟩ := touch (s' := { s8 with heap := s8.heap.update D (Obj.mapSeq fun x => x.push v) }) a9 (apD8.le l9) hDC hcD hkD rfl rfl
      have xx := (((x6.trans x7).trans x8).forget l9).touch zD hkD u2
      refine ⟨xs.length - (k + 1), by (first | lia | omega), k + 1, acc ++ [z], H9, some y, vs ++ [v], n', rfl, q9, u1, xx, I.same _ _ _ P5 (fun o e => by rw [lki5] at e; cases e; exact hkD _ _ (Ne.symm hDit) li8), (ap8.le l9).hidMono u2, (apD8.le l9).hidMono u2, ?_, r4.append (.cons r8 .nil)⟩
      show _ = _
      rw [lD9]; simp
noncomputable def CompMain (C : Cfg) (Φ : Orac) (c : Ctx) (sc : Scope) (x : Str) (elt iter : Expr) (ifs : List Expr) (melt : E) (src : Src) (mc : Option E) : Prop :=
  ∀ {env : Env} {A : Around} {m : Loc} {H : Heap} {s : Shared} {px pos : Pos} {Q : PV} {RR : Value → Addr → Result → Shared → Prop}, At C c env A m H s → wpE Φ (.comp melt 1 src mc) m H Q →
    (∀ D Cf s' H', s.heap.get? Cf = none → D ≠ Cf → (∃ mm, s'.heap.Ns Cf mm) → Apart C H' s'.heap Cf → StH C H' s' → Ext H s.heap H' s'.heap → Q (.ref D) H' → RR (.ref D) Cf (.ok .next) s') →
    wpAny C.M A (eval iter env) (fun xv s₁ => wpAny C.M A (pyIter xv) (fun it s₂ => wpAny C.M A (newList []) (fun acc s₃ => wpAny C.M A (newFunctionEnv sc env.globals (closOf env sc.names []) [] env.qual none .none (some env)) (fun cenv s₄ =>
      codeAny C.M A (.compStart (.ListComp elt [⟨.Name x px, iter, ifs, 0⟩] sc pos) 0 it acc { cenv with scope := relabel sc env }) (RR acc cenv.locals) s₄) NoE s₃) NoE s₂) NoE s₁) NoE s
noncomputable def CompMainG (C : Cfg) (Φ : Orac) (c : Ctx) (sc : Scope) (elt tg iter : Expr) (ifs : List Expr) (rest : List Comprehension) (me : E) : Prop :=
  ∀ {env : Env} {A : Around} {m : Loc} {H : Heap} {s : Shared} {pos : Pos} {Q : PV} {RR : Value → Addr → Result → Shared → Prop}, At C c env A m H s → wpE Φ me m H Q →
    (∀ D Cf s' H', s.heap.get? Cf = none → D ≠ Cf → (∃ mm, s'.heap.Ns Cf mm) → Apart C H' s'.heap Cf → StH C H' s' → Ext H s.heap H' s'.heap → Q (.ref D) H' → RR (.ref D) Cf (.ok .next) s') →
    wpAny C.M A (eval iter env) (fun xv s₁ => wpAny C.M A (pyIter xv) (fun it s₂ => wpAny C.M A (newList []) (fun acc s₃ => wpAny C.M A (newFunctionEnv sc env.globals (closOf env sc.names []) [] env.qual none .none (some env)) (fun cenv s₄ =>
      codeAny C.M A (.compStart (.ListComp elt (⟨tg, iter, ifs, 0⟩ :: rest) sc pos) 0 it acc { cenv with scope := relabel sc env }) (RR acc cenv.locals) s₄) NoE s₃) NoE s₂) NoE s₁) NoE s
theorem CompMain.toG {elt iter : Expr} {x : Str} {ifs : List Expr} {sc : Scope} {melt : E} {src : Src} {mc : Option E} {px : Pos} (h : CompMain C Φ c sc x elt iter ifs melt src mc) : CompMainG C Φ c sc elt (.Name x px) iter ifs [] (.comp melt 1 src mc) :=
  fun {env A m H s pos Q RR} a hw hRR => h a hw hRR
theorem comp_main {elt iter : Expr} {x : Str} {ifs : List Expr} {sc : Scope} {melt : E} {src : Src} {mc : Option E} (K : CompOk c sc x) (hsrc : SndSrc C Φ c iter src)
    (helt : SndE C Φ (c.inner1 sc x) elt melt) (hc : SndC C Φ (c.inner1 sc x) ifs mc) : CompMain C Φ c sc x elt iter ifs melt src mc := fun {env A m H s px pos Q RR} a hw hRR => by
  simp only [w_var, w_lit, w_bop, w_neg, w_cmp, w_cmp2, w_and, w_or, w_not, w_call, w_meth, w_new, w_prim, w_attr, w_idx, w_slice, w_list, w_tup, w_comp] at hw
  refine hsrc a hw fun it s2 xs ok H2 P I hP hz ap a2 x2 q2 => ?_
  refine wpAny_newObj_type (wpAny_newFunctionEnv K.cell (by intro y hy; cases hy) (fun h₁ hns₁ hsb₁ => ?_) K.kind)
  dsimp only at hns₁ hsb₁ ⊢
  have hC : (s2.heap.push { cls := .type "list", dict := none, data := .seq ([] : List Value).toArray }).objs.size = s2.heap.objs.size + 1 := Heap.size_push _ _
  have hCz : s2.heap.get? (s2.heap.push { cls := .type "list", dict := none, data := .seq ([] : List Value).toArray }).objs.size = none := by
    cases q : s2.heap.get? (s2.heap.push { cls := .type "list", dict := none, data := .seq ([] : List Value).toArray }).objs.size with
    | none => rfl
    | some o => have := Heap.lt_size q; rw [hC] at this; exact absurd this (Nat.not_lt.mpr (Nat.le_succ _))
  have hDC : s2.heap.objs.size ≠ (s2.heap.push { cls := .type "list", dict := none, data := .seq ([] : List Value).toArray }).objs.size := by rw [hC]; exact Nat.ne_of_lt (Nat.lt_succ_self _)
  have old : ∀ b o, s2.heap.get? b = some o → h₁.get? b = some o := fun b o e => hsb₁.extBut b o (fun q => by rw [q, hCz] at e; cases e) (Heap.get?_push_of_some _ (Heap.get?_push_of_some _ e))
  have lkD : h₁.get? s2.heap.objs.size = some { cls := .type "list", dict := none, data := .seq ([] : List Value).toArray } := hsb₁.extBut _ _ hDC (Heap.get?_push_of_some _ (Heap.get?_push_size _ rfl))
  have zC := x2.alive _ hCz
  have locL : ∀ b, s.heap.get? b = none → b ≠ env.locals := fun b e q => by
    obtain ⟨mm, ⟨o, es, ep, ho, hr⟩, hm⟩ := a.N.ns
    rw [← q, e] at ho; cases ho
  have locC : ∀ b, s.heap.get? b = none → ∀ x, env.cells.lookup x ≠ some b := fun b e x q => by
    obtain ⟨_, _, _, _, o, lk⟩ := a.N.apC _ _ q
    rw [e] at lk; cases lk
  have hfree := hfree_of K.toB a.N
  have locK : ∀ b, s.heap.get? b = none → ∀ x, (closOf env sc.names []).lookup x ≠ some b := fun b e x q => locC b e x (clos_lookup hfree q)
  obtain ⟨S3, x3⟩ := a2.S.grow (s' := { s2 with heap := h₁, toks := s2.toks + ([] : List (Str × Value)).length }) old rfl rfl
  have apC := (Apart.fresh a2.S hCz).hidMono (hid_grow a2.S old)
  have a3 := inner_at K (a2.on S3 x3) (mm := fun x => ([] : List (Str × Value)).reverse.lookup x) hns₁ rfl apC (locL _ zC) (locC _ zC)
  have hnu : (c.inner1 sc x).ν.lookup x = some m.length := by rw [a.N.len]; simp [Ctx.inner1, List.lookup]
  have loop := comp_loop (elt := elt) (iter := iter) (px := px) (pos := pos) (sc := sc) (W := (compEnvC sc (closOf env sc.names []) _ env).locals) (fun t r k => store_local (c := c.inner1 sc x) K.own hnu t r k) helt hc a hRR I hP hz ap a2 x2 q2 hDC (look_size _) hCz hCz hDC (locK _ hz) (locK _ (x2.alive _ (look_size _))) old x3 a3 lkD
  exact codeAny_compStart_list loop (wpAny_noE (I.self 0 _ _ _ (I.same _ _ _ hP (fun o e => old _ _ e)) loop))
section
variable {elt tg iter : Expr} {ifs : List Expr} {pos : Pos} {sc : Scope} {rest : List Comprehension} {me : E}
theorem comp_expr {Q : PV} (K : CompB c sc) (hM : CompMainG C Φ c sc elt tg iter ifs rest me) (hs : ∀ (env : Env) x, foldedSetIterable iter env x = pure x) (a : At C c env A m H s) (hw : wpE Φ me m H Q) :
    wpAny C.M A (eval (.ListComp elt (⟨tg, iter, ifs, 0⟩ :: rest) sc pos) env) (PE C H s Q) NoE s := by
  rw [eval_ListComp]
  refine wpAny_comprehension_free (use := none) rfl (hs env) (closOf_ok (hfree_of K a.N)) K.kind K.loc (hM (RR := fun acc Cf => compPost C.M A NoE none (PE C H s Q) acc Cf) a hw ?_)
  intro D Cf s' H' hz hne ⟨mm, hN⟩ ap S' x' q
  refine ⟨mm, hN, fun h' hs' => ?_⟩
  have hk : ∀ b o, b ≠ Cf → s'.heap.get? b = some o → h'.get? b = some o := fun b o n e => hs'.extBut b o n e
  have hh : ∀ b, Hid H' h' b → Hid H' s'.heap b := fun b z => z.same (fun d c fs e o lk => hk _ _ (fun q => by rw [q, ap.at_] at e; cases e) lk) fun a o e => (S'.rep _ _ e).look
  exact ⟨.ref D, H', rfl, S'.quiet (s' := { s' with heap := h' }) (fun b => b = Cf) (fun b o e n => hk b o n e) (fun b e => by subst e; exact ⟨ap.at_, ap.base, ap.hid⟩) rfl rfl, x'.touch hz hk hh, q⟩
theorem comp_assign {Q : PS} {y : Str} {py spos : Pos} {i : Nat} (hn : trName c y = some i) (K : CompB c sc) (hM : CompMainG C Φ c sc elt tg iter ifs rest me) (hs : ∀ (env : Env) x, foldedSetIterable iter env x = pure x) (a : At C c env A m H s) (hw : wpS Φ (.assign i me) m H Q) :
    wpAny C.M A (exec (.Assign [.Name y py] (.ListComp elt (⟨tg, iter, ifs, 0⟩ :: rest) sc pos) spos) env) (PSs C c env H s Q) NoE s := by
  simp only [s_assign, s_unpack, s_setAttr, s_setIdx, s_delIdx, s_append, s_expr, s_ret0, s_ret, s_ite, s_whl, s_for, s_brk, s_pass] at hw
  obtain ⟨b, hb⟩ : ∃ b, swapsWith (.ListComp elt (⟨tg, iter, ifs, 0⟩ :: rest) sc pos) (some (.Name y py)) spos.line env = pure b := ⟨_, rfl⟩
  cases b with
  | false => exact wpAny_Assign_Name (SndE.then (comp_expr K hM hs) a hw fun v s1 z H1 r a1 x1 q => store_ok hn a1 r fun s2 S2 N2 x2 => ⟨.next, _, H1, trivial, S2, N2, x1.toS.trans x2, q⟩) hb
  | true =>
    rw [exec_Assign_Name_used _ _ _ _ hb]
    refine wpAny_bind (wpAny_standAt (wpAny_bind ?_))
    show wpAny _ A (do let _ ← comprehension (.ListComp elt (⟨tg, iter, ifs, 0⟩ :: rest) sc pos) sc env _ (newList []) false (eval iter env) (some (assign (.Name y py) env))) _ _ s
    refine wpAny_bind (wpAny_mono (wpAny_comprehension_free (use := some (assign (.Name y py) env)) (Q := fun _ s' => PSs C c env H s Q .next s') rfl (hs env) (closOf_ok (hfree_of K a.N)) K.kind K.loc
      (hM (RR := fun acc Cf => compPost C.M A NoE (some (assign (.Name y py) env)) (fun _ s' => PSs C c env H s Q .next s') acc Cf) a hw ?_)) (fun _ s' hq => wpAny_pure (wpAny_pure hq)) fun _ _ e => e)
    intro D Cf s' H' hz hne ⟨mm, hN⟩ ap S' x' q
    have hL : Cf ≠ env.locals := fun q => by
      refine absG fun Cg hCg => ?_
      obtain ⟨mm, ⟨o, es, ep, ho, hr⟩, hm⟩ := a.N.ns
      refine hCg ?_; clear hCg
      rw [← q, hz] at ho; cases ho
    have hK : ∀ x, env.cells.lookup x ≠ some Cf := fun x q => by
      refine absG fun Cg hCg => ?_
      obtain ⟨_, _, _, _, o, lk⟩ := a.N.apC _ _ q
      refine hCg ?_; clear hCg
      rw [hz] at lk; cases lk
    have a' := a.on S' x'
    refine wpAny_assign_Name (store_ok (v := .ref D) hn a' rfl fun s2 S2 N2 x2 => ?_)
    refine absG fun Cg hCg => ?_
    obtain ⟨o, es, ep, ho, hr⟩ := hN
    obtain ⟨lk2, ap2⟩ := x2.apart ho ap hL hK
    refine hCg ?_; clear hCg
    refine ⟨mm, ⟨o, es, ep, lk2, hr⟩, fun h' hs' => ?_⟩
    have hk : ∀ b o, b ≠ Cf → s2.heap.get? b = some o → h'.get? b = some o := fun b o n e => hs'.extBut b o n e
    obtain ⟨t1, t2⟩ := touch (s' := { s2 with heap := h' }) (a'.then S2 N2) ap2 hL hK hk rfl rfl
    exact ⟨.next, _, H', trivial, t1.S, t1.N, (x'.toS.trans x2).touch hz hk t2, q⟩
end
end ML
namespace ML
open PySem PySem.W PySem.Calls PyProof.Rows PySem.SeqAt
variable {C : Cfg} {Φ : Orac} {c : Ctx} {H H' H'' H1 : Heap} {s s' s1 s2 : Shared} {h h' h'' : PHeap} {A : Around} {env : Env} {m m' : Loc}
theorem ints_of {ns : List Int} : ∀ {vs : List Value}, All2 RepV vs (ns.map V.int) → ∃ ps : List (Int × Tok), vs = ps.map (fun p => .int p.1 p.2) ∧ ns = ps.map (·.1) := by
  induction ns with
  | nil => intro vs r; cases r; exact ⟨[], rfl, rfl⟩
  | cons n ns ih =>
    intro vs r
    cases r with
    | cons a r =>
      obtain ⟨t, rfl⟩ := RepV.int a
      obtain ⟨ps, rfl, rfl⟩ := ih r
      exact ⟨(n, t) :: ps, rfl, rfl⟩
theorem sum_take : ∀ (ps : List (Int × Tok)) (k : Nat), k ≤ ps.length → preSum (numAt ps.toArray) k = sumZ ((ps.take k).map (·.1)) := by
  intro ps k hk
  induction k with
  | zero => rfl
  | succ k ih =>
    have hs : ∀ (a b : List Int), sumZ (a ++ b) = sumZ a + sumZ b := by
      intro a b
      induction a with
      | nil => show sumZ b = 0 + sumZ b; (first | lia | omega)
      | cons x a ih => show x + sumZ (a ++ b) = x + sumZ a + sumZ b; (first | lia | omega)
    have e : ps[k]? = some (ps[k]'hk) := List.getElem?_eq_getElem _
    show preSum (numAt ps.toArray) k + numAt ps.toArray k = _
    rw [ih (by (first | lia | omega)), List.take_add_one, e, Option.toList_some, List.map_append, hs]
    have : numAt ps.toArray k = (ps[k]'hk).1 := by simp [numAt, e]
    rw [this]
    show _ = _ + ((ps[k]'hk).1 + 0)
    (first | lia | omega)
theorem sum_call {vs : List Value} {xs : List V} {Q : PV} (hh : A.handled = none) (S : StH C H s) (r : All2 RepV vs xs) (hw : primW .sum xs H Q) : wpAny C.M A (call (.builtin "sum") vs []) (PE C H s Q) NoE s := by
  replace hw : sumW xs H Q := hw
  unfold sumW at hw
  split at hw
  · rename_i a
    obtain ⟨v, rfl, r1⟩ := r.one
    cases r1.ref
    split at hw
    · rename_i x hx
      obtain ⟨ns, e, q⟩ := hw
      have rr := S.rep _ _ hx
      have fin : ∀ {us : List Value}, s.heap.IsList a us.toArray → All2 RepV us (ns.map V.int) → wpAny C.M A (call (.builtin "sum") [.ref a] []) (PE C H s Q) NoE s := by
        intro us l r2
        obtain ⟨ps, rfl, rfl⟩ := ints_of r2
        refine sum_intListG (xs := ps.toArray) hh (by simpa [intItems] using l) fun h' tk t' hk => ?_
        obtain ⟨S', x'⟩ := S.grow (s' := { s with heap := h', toks := tk }) hk rfl rfl
        refine ⟨_, H, ?_, S', x', q⟩
        show preSum (numAt ps.toArray) ps.toArray.size = _
        rw [List.size_toArray, sum_take ps _ (Nat.le_refl _), List.take_length]
      cases x with
      | list zs => cases e; obtain ⟨us, n, l, r2, _⟩ := rr; exact fin l.isList r2
      | ro zs => cases e; obtain ⟨us, l, r2, _⟩ := rr; exact fin l r2
      | _ => cases e
    · exact hw.elim
  · exact hw.elim
end ML
namespace ML
open PySem PySem.W PySem.Calls PyProof.Rows PySem.SeqAt
variable {C : Cfg} {Φ : Orac} {c : Ctx} {H H' H'' H1 : Heap} {s s' s1 s2 : Shared} {h h' h'' : PHeap} {A : Around} {env : Env} {m m' : Loc}
theorem tupZ_ok {e : Expr} {es : List Expr} (h : tupZ e = some es) : ∃ k p, e = .Tuple es k p := by
  unfold tupZ at h
  by_cases q : e.ctorIdx = 25
  · revert h
    refine Expr.Tuple.elim e q fun es k p h => ?_
    cases h
    exact ⟨k, p, rfl⟩
  · rw [dif_neg q] at h; cases h
theorem touchP (P : Addr → Prop) (a : At C c env A m H s) (ap : ∀ b, P b → Apart C H s.heap b) (hl : ¬ P env.locals) (hc : ∀ x b, env.cells.lookup x = some b → ¬ P b) (hk : ∀ b o, ¬ P b → s.heap.get? b = some o → s'.heap.get? b = some o) (hg : s'.gens = s.gens) (hos : s'.os = s.os) :
    At C c env A m H s' ∧ ∀ b, Hid H s'.heap b → Hid H s.heap b := by
  have hh : ∀ b, Hid H s'.heap b → Hid H s.heap b := fun b z => z.same (fun d c fs e o lk => hk _ _ (fun q => by rw [(ap _ q).at_] at e; cases e) lk) fun d o e => (a.S.rep _ _ e).look
  refine ⟨⟨a.eo, a.ao, a.S.quiet P (fun b o e n => hk b o n e) (fun b e => ⟨(ap b e).at_, (ap b e).base, (ap b e).hid⟩) hg hos, a.N.stay (fun b o w e => hk b o (fun q => ?_) e) hh⟩, hh⟩
  rcases w with w | ⟨y, w⟩
  · exact hl (w ▸ q)
  · exact hc y _ w q
theorem ExtS.touchP {P : Addr → Prop} (x : ExtS env H h H' h') (hz : ∀ b, P b → h.get? b = none) (hk : ∀ b o, ¬ P b → h'.get? b = some o → h''.get? b = some o) (hh : ∀ b, Hid H' h'' b → Hid H' h' b) : ExtS env H h H' h'' where
  keep b o e n l k := hk b o (fun q => by rw [hz b q] at e; cases e) (x.keep b o e n l k)
  alive b e := by
    by_cases q : P b
    · exact hz b q
    · refine x.alive b ?_
      cases z : h'.get? b with
      | none => rfl
      | some o => rw [hk b o q z] at e; cases e
  fresh b f := x.fresh b (by
    rcases f with f | f | f
    · exact .inl f
    · exact .inr (.inl f)
    · exact .inr (.inr (hh _ f)))
  dom b o e := x.dom b o e
noncomputable def ZipAt (n p q k : Nat) (h : PHeap) : Prop := IsZip h (n + 4) (n + 2) (n + 3) .none ∧ IsPair h (n + 2) (.ref n) (.ref (n + 1)) ∧ (∃ a b, IsPair h (n + 3) a b) ∧ h.IsListIter n p k ∧ h.IsListIter (n + 1) q k
theorem ZipAt.same {n p q k : Nat} (z : ZipAt n p q k h) (e : ∀ b o, n ≤ b → b < n + 5 → h.get? b = some o → h'.get? b = some o) : ZipAt n p q k h' :=
  let ⟨h1, h2, ⟨a, b, h3⟩, h4, h5⟩ := z
  ⟨e _ _ (by (first | lia | omega)) (by (first | lia | omega)) h1, e _ _ (by (first | lia | omega)) (by (first | lia | omega)) h2, ⟨a, b, e _ _ (by (first | lia | omega)) (by (first | lia | omega)) h3⟩, h4.at fun o x => e _ _ (by (first | lia | omega)) (by (first | lia | omega)) x, h5.at fun o x => e _ _ (by (first | lia | omega)) (by (first | lia | omega)) x⟩
theorem ZipAt.look {n p q k b : Nat} (z : ZipAt n p q k h) (h1 : n ≤ b) (h2 : b < n + 5) : ∃ o, h.get? b = some o := by
  obtain ⟨z1, z2, ⟨u, v, z3⟩, ⟨o4, z4, _⟩, ⟨o5, z5, _⟩⟩ := z
  have : b = n ∨ b = n + 1 ∨ b = n + 2 ∨ b = n + 3 ∨ b = n + 4 := by (first | lia | omega)
  rcases this with rfl | rfl | rfl | rfl | rfl
  · exact ⟨_, z4⟩
  · exact ⟨_, z5⟩
  · exact ⟨_, z2⟩
  · exact ⟨_, z3⟩
  · exact ⟨_, z1⟩
theorem lt_of_get' {α : Type} {l : List α} {k : Nat} {x : α} (h : l[k]? = some x) : k < l.length := by
  by_cases q : k < l.length
  · exact q
  · rw [List.getElem?_eq_none (Nat.not_lt.mp q)] at h; cases h
theorem zip_apart {n p q : Nat} (hp : p < n) (hq : q < n) : ZipApart (n + 4) (n + 2) (n + 3) n (n + 1) p q := by constructor <;> exact (show @Ne Nat _ _ by (first | lia | omega))
theorem All2.fst {vs : List Value} {ps : List (V × V)} {k : Nat} {x : V × V} (r : All2 RepV vs (ps.map Prod.fst)) (hx : ps[k]? = some x) : ∃ v, vs[k]? = some v ∧ RepV v x.1 := r.get (by rw [List.getElem?_map, hx]; rfl)
theorem All2.snd {vs : List Value} {ps : List (V × V)} {k : Nat} {x : V × V} (r : All2 RepV vs (ps.map Prod.snd)) (hx : ps[k]? = some x) : ∃ v, vs[k]? = some v ∧ RepV v x.2 := r.get (by rw [List.getElem?_map, hx]; rfl)
theorem on2.of {f : V → V → Heap → Prop} : (fun vs H => match vs with | [x, y] => f x y H | _ => False) = on2 f := rfl
theorem forz_ok {x y : Str} {px py pt p pc pos : Pos} {kt : Nat} {e1 e2 : Expr} {me1 me2 : E} {b : List Stmt} {mb : List S} {i j : Nat} {Q : PS} (O : C.Ok) (hx : trName c x = some i) (hy : trName c y = some j) (hg : c.isGlob "zip" = true) (s1' : isStar e1 = false) (s2' : isStar e2 = false) (he1 : SndE C Φ c e1 me1) (he2 : SndE C Φ c e2 me2) (hb : SndSs C Φ c b mb)
    (a : At C c env A m H s) (hw : wpS Φ (.forz i j me1 me2 mb) m H Q) :
    wpAny C.M A (exec (.For (.Tuple [.Name x px, .Name y py] kt pt) (.Call (.Name "zip" p) [e1, e2] [] pc) b [] pos) env) (PSs C c env H s Q) NoE s := by
  rw [s_forz] at hw
  have hw' : wpEs Φ [me1, me2] m H (on2 fun v u H => zipW v u H fun ps ok => forzL (wpSs Φ mb) i j ok ps m H Q) := hw
  refine wpAny_For ?_ (fun _ => rfl)
  refine callT_ok O (by decide) rfl hg (by simp [s1', s2']) (items_cons s1' he1 (items_cons s2' he2 items_nil)) a hw' fun vs s1 xs H1 r a1 x1 q => ?_
  have g := q.get r
  clear q r
  obtain ⟨v, w, vx, vy, rfl, rfl, r1, r2, q⟩ := g
  unfold zipW at q
  split at q
  case h_2 => exact q.elim
  rename_i p'
  split at q
  case h_2 => exact q.elim
  rename_i q'
  cases r1.ref
  cases r2.ref
  obtain ⟨ps, ok1, fw⟩ := q
  have rp := a1.S.rep _ _ ok1.1
  have rq := a1.S.rep _ _ ok1.2
  obtain ⟨vs1, n1, l1, rr1, _⟩ := rp
  obtain ⟨vs2, n2, l2, rr2, _⟩ := rq
  refine call_zip_2 l1.isList l2.isList fun h2 z1 z2 z3 z4 z5 hsz hk2 => ?_
  have zp : p' < s1.heap.objs.size := Heap.lt_size l1
  have zq : q' < s1.heap.objs.size := Heap.lt_size l2
  have Z : ZipAt s1.heap.objs.size p' q' 0 h2 := ⟨z1, z2, ⟨_, _, z3⟩, z4, z5⟩
  refine wpAny_pyIter_zip z1 ?_
  clear z1 z2 z3 z4 z5
  obtain ⟨S2, x2⟩ := a1.S.grow (s' := { s1 with heap := h2 }) hk2 rfl rfl
  have a2 := a1.on S2 x2
  have xx2 := x1.trans x2
  have new : ∀ b, s1.heap.objs.size ≤ b → s1.heap.get? b = none := fun b hb => by
    cases q : s1.heap.get? b with
    | none => rfl
    | some o => exact absurd (Heap.lt_size q) (Nat.not_lt.mpr hb)
  have zs : ∀ b, s1.heap.objs.size ≤ b → s.heap.get? b = none := fun b hb => x1.alive _ (new b hb)
  have ap2 : ∀ b, s1.heap.objs.size ≤ b → Apart C H1 h2 b := fun b hb => (Apart.fresh a1.S (new b hb)).hidMono (hid_grow a1.S hk2)
  generalize s1.heap.objs.size = n at *
  let P : Addr → Prop := fun b => n ≤ b ∧ b < n + 5
  have hl : ¬ P env.locals := fun q => by
    obtain ⟨mm, ⟨o, es, ep, ho, hr⟩, hm⟩ := a.N.ns
    rw [zs _ q.1] at ho; cases ho
  have hc : ∀ x b, env.cells.lookup x = some b → ¬ P b := fun x b e q => by
    obtain ⟨_, _, _, _, o, lk⟩ := a.N.apC _ _ e
    rw [zs _ q.1] at lk; cases lk
  refine codeAny_mono (R := fun r s' => ∃ f, r = .ok f ∧ PSs C c env H s Q f s') ?_ (fun r s' z => by obtain ⟨f, rfl, z⟩ := z; exact z)
  refine codeAny_forLoop_any (fun nn s' => ∃ k m' H', nn = ps.length - k ∧ k ≤ ps.length ∧ forzL (wpSs Φ mb) i j (zipOk p' q' ps) (ps.drop k) m' H' Q ∧ At C c env A m' H' s' ∧ ExtS env H s.heap H' s'.heap ∧ ZipAt n p' q' k s'.heap ∧ ∀ b, P b → Apart C H' s'.heap b) (fun nn s1 hI => ?_) _ ⟨0, m, H1, rfl, Nat.zero_le _, fw, a2, xx2.toS, Z, fun b hb => ap2 b hb.1⟩
  clear fw a2 xx2 Z ap2 S2 x2 a1 x1 l1 l2 rr1 rr2 ok1 hk2 new
  obtain ⟨k, m1, H1, rfl, hkl, fw, a1, x1, Z1, ap1⟩ := hI
  have ok1 : zipOk p' q' ps H1 := by
    cases hd : ps.drop k with
    | nil => rw [hd] at fw; exact fw.1
    | cons x r => rw [hd] at fw; exact fw.1
  obtain ⟨vs1, n1, l1, rr1, _⟩ := a1.S.rep _ _ ok1.1
  obtain ⟨vs2, n2, l2, rr2, _⟩ := a1.S.rep _ _ ok1.2
  have W := WalksT.zip2 (prog := C.prog) (w := C.w) (A := A) a.ao.hd (n + 4) (n + 2) (n + 3) n (n + 1) p' q' (zip_apart zp zq) vs1.toArray vs2.toArray
  have wrP : ∀ b, ¬ P b → b ∉ [n + 4, n + 3, n, n + 1] := fun b hb hm => hb (by
    simp only [List.mem_cons, List.not_mem_nil, or_false] at hm
    show n ≤ b ∧ b < n + 5
    rcases hm with rfl | rfl | rfl | rfl <;> (constructor <;> (first | exact Nat.le_refl _ | exact Nat.le_add_right _ _ | exact Nat.lt_add_of_pos_right (by decide) | exact Nat.add_lt_add_left (by decide) _)))
  have len1 : vs1.length = ps.length := by rw [rr1.length, List.length_map]
  have len2 : vs2.length = ps.length := by rw [rr2.length, List.length_map]
  have hmin : min vs1.toArray.size vs2.toArray.size = ps.length := by rw [List.size_toArray, List.size_toArray, len1, len2, Nat.min_self]
  have hst : IsZip s1.heap (n + 4) (n + 2) (n + 3) .none ∧ IsPair s1.heap (n + 2) (.ref n) (.ref (n + 1)) ∧ (∃ a b, IsPair s1.heap (n + 3) a b) ∧ s1.heap.IsListIter n p' k ∧ s1.heap.IsListIter (n + 1) q' k ∧ s1.heap.IsList p' vs1.toArray ∧ s1.heap.IsList q' vs2.toArray := ⟨Z1.1, Z1.2.1, Z1.2.2.1, Z1.2.2.2.1, Z1.2.2.2.2, l1.isList, l2.isList⟩
  rw [hmin] at W
  cases hx' : ps[k]? with
  | none =>
    have hlen : ps.length ≤ k := List.getElem?_eq_none_iff.mp hx'
    rw [List.drop_eq_nil_of_le hlen] at fw
    cases Nat.le_antisymm hkl hlen
    refine W.done s1 _ _ hst fun h2 tk hk => ?_
    have keep : ∀ b o, ¬ P b → s1.heap.get? b = some o → h2.get? b = some o := fun b o n e => hk b o (wrP b n) e
    obtain ⟨t1, t2⟩ := touchP P (s' := { s1 with heap := h2, toks := tk }) a1 ap1 hl hc keep rfl rfl
    exact wpAny_execs_nil ⟨_, rfl, .next, m1, H1, trivial, t1.S, t1.N, x1.touchP (P := P) (fun b hb => zs b hb.1) keep t2, fw.2⟩
  | some xy =>
    have hlt : k < ps.length := lt_of_get' hx'
    have hd : ps.drop k = xy :: ps.drop (k + 1) := by
      rw [List.drop_eq_getElem_cons hlt]
      rw [List.getElem?_eq_getElem hlt] at hx'
      rw [Option.some.inj hx']
    rw [hd] at fw
    refine W.item k s1 _ _ hlt hst fun T vals h2 tk hPt _ hT hmid hk => ?_
    obtain ⟨vx, vy, ex, ey, rfl⟩ := hPt
    obtain ⟨vx', ex', rx⟩ := rr1.fst hx'
    obtain ⟨vy', ey', ry⟩ := rr2.snd hx'
    rw [List.getElem?_toArray, ex'] at ex
    rw [List.getElem?_toArray, ey'] at ey
    cases ex; cases ey
    refine W.go _ kt pt k T _ _ _ hmid fun h3 hst3 hk3 => ?_
    have hT3 : h3.IsTuple T #[vx, vy] := hT.at fun o e => hk3 T o (W.apart k T h2 hmid) e
    refine wpAny_assign_Tuple a.ao.hd hT3 rfl rfl fun h4 hx4 => ?_
    replace hx4 : Heap.ExtBut h3.objs.size h3 h4 := hx4
    have up4 : ∀ b o, h3.get? b = some o → h4.get? b = some o := fun b o e => hx4 b o (Nat.ne_of_lt (Heap.lt_size e)) e
    have keep : ∀ b o, ¬ P b → s1.heap.get? b = some o → h4.get? b = some o := fun b o n e => up4 b o (hk3 b o (wrP b n) (hk b o (wrP b n) e))
    obtain ⟨t1, t2⟩ := touchP P (s' := { s1 with heap := h4, toks := tk }) a1 ap1 hl hc keep rfl rfl
    have Z4 : ZipAt n p' q' (k + 1) h4 := ZipAt.same (h := h3) ⟨hst3.1, hst3.2.1, hst3.2.2.1, hst3.2.2.2.1, hst3.2.2.2.2.1⟩ fun b o _ _ e => up4 b o e
    have x4 := x1.touchP (P := P) (fun b hb => zs b hb.1) keep t2
    have ap4 : ∀ b, P b → Apart C H1 h4 b := fun b hb => (ap1 b hb).hidMono t2
    show wpAny _ A (do holding [vy] (assign (.Name x px) env vx); do holding [] (assign (.Name y py) env vy); pure ()) _ _ _
    refine wpAny_bind (wpAny_holding (wpAny_noE (wpAny_assign_Name (store_ok hx t1 rx fun s5 S5 N5 x5 => ?_))))
    refine wpAny_bind (wpAny_holding (wpAny_noE (wpAny_assign_Name (store_ok hy (t1.then S5 N5) ry fun s6 S6 N6 x6 => wpAny_pure ?_))))
    have x46 := x5.trans x6
    have hl' : ∀ b, P b → b ≠ env.locals := fun b hb q => hl (q ▸ hb)
    have hc' : ∀ b, P b → ∀ x, env.cells.lookup x ≠ some b := fun b hb x q => hc x b q hb
    have ap6 : ∀ b o, P b → h4.get? b = some o → s6.heap.get? b = some o ∧ Apart C H1 s6.heap b := fun b o hb e => x46.apart e (ap4 b hb) (hl' b hb) (hc' b hb)
    refine wpAny_mono (hb ((t1.then S5 N5).then S6 N6) fw.2) (fun fl s7 z => ?_) fun _ _ f => f.elim
    obtain ⟨mfl, m7, H7, r7, S7, N7, x7, H8, l8, q7⟩ := z
    have xx := ((x4.trans x46).trans x7).forget l8
    have ap7 : ∀ b o, P b → h4.get? b = some o → s7.heap.get? b = some o ∧ Apart C H8 s7.heap b := fun b o hb e =>
      let ⟨e6, a6⟩ := ap6 b o hb e
      let ⟨e7, a7⟩ := x7.apart e6 a6 (hl' b hb) (hc' b hb)
      ⟨e7, a7.le l8⟩
    have go : forzL (wpSs Φ mb) i j (zipOk p' q' ps) (ps.drop (k + 1)) m7 H8 Q → ∃ nn, nn < ps.length - k ∧ ∃ k m' H', nn = ps.length - k ∧ k ≤ ps.length ∧ forzL (wpSs Φ mb) i j (zipOk p' q' ps) (ps.drop k) m' H' Q ∧ At C c env A m' H' s7 ∧ ExtS env H s.heap H' s7.heap ∧ ZipAt n p' q' k s7.heap ∧ ∀ b, P b → Apart C H' s7.heap b := fun q =>
      ⟨ps.length - (k + 1), by (first | lia | omega), k + 1, m7, H8, rfl, hlt, q, a.then (S7.forget l8) (N7.forget l8), xx, Z4.same (fun b o b1 b2 e => (ap7 b o ⟨b1, b2⟩ e).1), fun b hb => let ⟨o, e⟩ := Z4.look hb.1 hb.2; (ap7 b o hb e).2⟩
    cases fl with
    | next => cases mfl <;> first | exact r7.elim | exact go q7
    | cont => cases mfl <;> first | exact r7.elim | exact go q7
    | brk => cases mfl <;> first | exact r7.elim | exact ⟨_, rfl, .next, m7, H8, trivial, S7.forget l8, N7.forget l8, xx, q7⟩
    | ret v => cases mfl <;> first | exact r7.elim | exact ⟨_, rfl, _, m7, H8, r7, S7.forget l8, N7.forget l8, xx, q7⟩
end ML
namespace ML
open PySem PySem.W PySem.Calls PyProof.Rows PySem.SeqAt
noncomputable abbrev IsZipA (h : PySem.Heap) (z TI TO T : Addr) (f1 : Bool) : Prop :=
  h.get? z = some { cls := .type "zip", dict := none, data := .fields #[rawInt T, .bool f1, .bool false, .ref TI, .ref TO], slots := #[] }
section
variable {prog : Program} {w : World} {A : Around} {E : Value → Shared → Prop} {s : Shared}
theorem wpAny_alive {M : Model} {a : Addr} {Q : Option Obj → Shared → Prop} (h : Q (s.heap.get? a) s) : wpAny M A (loadIfAlive a) Q E s := fun Γ p hp => by
  unfold loadIfAlive
  rw [Sem.wp_loadIfAlive]
  exact h
theorem zip_free {z TI TO T : Addr} {f1 : Bool} {o : Obj} {Q : Bool → Shared → Prop} (hz : IsZipA s.heap z TI TO T f1) (hT : s.heap.get? T = some o) (hQ : ∀ h', IsZipA h' z TI TO T true → Heap.SameBut z s.heap h' → Q false { s with heap := h' }) :
    wpAny (model prog w) A (Builtin.SmallTypes.ownedTupleIsFree (.ref z)) Q E s := by
  unfold Builtin.SmallTypes.ownedTupleIsFree
  refine wpAny_bind (wpAny_field hz rfl (x := rawInt T) rfl ?_)
  show wpAny _ _ (loadIfAlive (T : Int).toNat >>= _) _ _ _
  refine wpAny_bind (wpAny_alive ?_)
  rw [Int.toNat_natCast, hT]
  show wpAny _ _ (field (.ref z) 1 >>= _) _ _ _
  refine wpAny_bind (wpAny_field hz rfl (x := .bool f1) rfl ?_)
  cases f1 with
  | false =>
    refine wpAny_bind (wpAny_setField_rec hz (by simp) fun h₁ hz₁ hs₁ => wpAny_pure (hQ h₁ hz₁ hs₁))
  | true => exact wpAny_pure (hQ s.heap hz (Heap.SameBut.refl _ _))
theorem zip_next_alive {z TI TO T i1 i2 l1 l2 : Addr} {f1 : Bool} {o : Obj} {k1 k2 : Nat} {xs ys : Array Value} {x y : Value} {Q : Value → Shared → Prop} (D : ZipApart z TI TO i1 i2 l1 l2)
    (hz : IsZipA s.heap z TI TO T f1) (hT : s.heap.get? T = some o) (hTI : IsPair s.heap TI (.ref i1) (.ref i2))
    (h1 : s.heap.IsListIter i1 l1 k1) (h2 : s.heap.IsListIter i2 l2 k2) (hl1 : s.heap.IsList l1 xs) (hl2 : s.heap.IsList l2 ys) (hx : xs[k1]? = some x) (hy : ys[k2]? = some y)
    (hQ : ∀ h', IsZipA h' z TI TO T true → h'.IsListIter i1 l1 (k1 + 1) → h'.IsListIter i2 l2 (k2 + 1) → IsPair h' s.heap.objs.size x y → h'.objs.size = s.heap.objs.size + 1 →
      (∀ c o, c ≠ z → c ≠ i1 → c ≠ i2 → s.heap.get? c = some o → h'.get? c = some o) → Q (.ref s.heap.objs.size) { s with heap := h' }) :
    wpAny (model prog w) A (Builtin.«zip.__next__» ⟨[.ref z], []⟩) (fun fin s' => ∃ v, fin = .done (.ret v) ∧ Q v s') E s := by
  show wpAny _ _ (field (.ref z) 2 >>= _) _ _ _
  refine wpAny_bind (wpAny_field hz rfl (x := .bool false) rfl ?_)
  show wpAny _ _ (field (.ref z) 3 >>= _) _ _ _
  refine wpAny_bind (wpAny_field hz rfl (x := .ref TI) rfl ?_)
  refine wpAny_bind (wpAny_seqItems hTI rfl ?_)
  show wpAny _ _ (Builtin.SmallTypes.ownedTupleIsFree (.ref z) >>= _) _ _ _
  refine wpAny_bind (zip_free hz hT fun h₁ hz₁ hs₁ => ?_)
  simp only [Bool.false_eq_true, if_false]
  refine wpAny_bind ?_
  simp only [List.forIn_toArray, List.forIn_cons, List.forIn_nil]
  refine wpAny_bind (wpAny_bind (wpAny_holding ?_))
  show wpAny _ _ (Builtin.SmallTypes.nextOf (.ref i1) >>= _) _ _ _
  refine wpAny_bind (wpAny_nextOf_list_item (h1.extBut hs₁.extBut D.i1z) (hl1.extBut hs₁.extBut D.l1z) hx fun h₂ h1₂ hs₂ => wpAny_pure (wpAny_pure ?_))
  refine wpAny_bind (wpAny_bind (wpAny_holding ?_))
  show wpAny _ _ (Builtin.SmallTypes.nextOf (.ref i2) >>= _) _ _ _
  refine wpAny_bind (wpAny_nextOf_list_item ((h2.extBut hs₁.extBut D.i2z).extBut hs₂.extBut D.i12.symm) ((hl2.extBut hs₁.extBut D.l2z).extBut hs₂.extBut D.l2i1) hy fun h₃ h2₃ hs₃ => wpAny_pure (wpAny_pure (wpAny_pure ?_)))
  show wpAny _ _ (newTuple [x, y] >>= _) _ _ _
  refine wpAny_bind (wpAny_newTuple (wpAny_pure ⟨_, rfl, ?_⟩))
  have hsz : h₃.objs.size = s.heap.objs.size := by rw [hs₃.1, hs₂.1, hs₁.1]
  have hz₃ : IsZipA h₃ z TI TO T true := hs₃.extBut _ _ D.i2z.symm (hs₂.extBut _ _ D.i1z.symm hz₁)
  have up : ∀ c o, h₃.get? c = some o → (h₃.push { cls := .type "tuple", data := .seq #[x, y] }).get? c = some o := fun c o e => Heap.get?_push_of_some _ e
  show Q (.ref h₃.objs.size) _
  rw [hsz]
  refine hQ _ (up _ _ hz₃) ((h1₂.extBut hs₃.extBut D.i12).at fun o e => up _ o e) (h2₃.at fun o e => up _ o e) ?_ (by rw [Heap.size_push, hsz]) fun c o c1 c2 c3 e => up _ _ (hs₃.extBut _ _ c3 (hs₂.extBut _ _ c2 (hs₁.extBut _ _ c1 e)))
  rw [← hsz]
  exact Heap.get?_push_size _ rfl
theorem zip_end_alive {z TI TO T i1 i2 l1 l2 : Addr} {f1 : Bool} {o : Obj} {k1 k2 : Nat} {xs ys : Array Value} {Q : Fin → Shared → Prop} (hh : A.handled = none) (D : ZipApart z TI TO i1 i2 l1 l2)
    (hz : IsZipA s.heap z TI TO T f1) (hT : s.heap.get? T = some o) (hTI : IsPair s.heap TI (.ref i1) (.ref i2))
    (h1 : s.heap.IsListIter i1 l1 k1) (hl1 : s.heap.IsList l1 xs) (hx : xs[k1]? = none)
    (hE : ∀ h' e, (∀ c o, c ≠ z → c ≠ i1 → s.heap.get? c = some o → h'.get? c = some o) → (∃ o, h'.get? e = some o ∧ o.cls = .type "StopIteration") → E (.ref e) { s with heap := h' }) :
    wpAny (model prog w) A (Builtin.«zip.__next__» ⟨[.ref z], []⟩) Q E s := by
  show wpAny _ _ (field (.ref z) 2 >>= _) _ _ _
  refine wpAny_bind (wpAny_field hz rfl (x := .bool false) rfl ?_)
  show wpAny _ _ (field (.ref z) 3 >>= _) _ _ _
  refine wpAny_bind (wpAny_field hz rfl (x := .ref TI) rfl ?_)
  refine wpAny_bind (wpAny_seqItems hTI rfl ?_)
  show wpAny _ _ (Builtin.SmallTypes.ownedTupleIsFree (.ref z) >>= _) _ _ _
  refine wpAny_bind (zip_free hz hT fun h₁ hz₁ hs₁ => ?_)
  simp only [Bool.false_eq_true, if_false]
  refine wpAny_bind ?_
  simp only [List.forIn_toArray, List.forIn_cons, List.forIn_nil]
  refine wpAny_bind (wpAny_bind (wpAny_holding ?_))
  show wpAny _ _ (Builtin.SmallTypes.nextOf (.ref i1) >>= _) _ _ _
  exact wpAny_bind (wpAny_nextOf_list_end hh (h1.extBut hs₁.extBut D.i1z) (hl1.extBut hs₁.extBut D.l1z) hx fun h₂ e hs₂ he => hE h₂ e (fun c o c1 c2 x => hs₂ _ _ c2 (hs₁.extBut _ _ c1 x)) he)
theorem pyNext_zip_alive {z TI TO T i1 i2 l1 l2 : Addr} {f1 : Bool} {o : Obj} {k1 k2 : Nat} {xs ys : Array Value} {x y : Value} {Q : Option Value → Shared → Prop} (D : ZipApart z TI TO i1 i2 l1 l2)
    (hz : IsZipA s.heap z TI TO T f1) (hT : s.heap.get? T = some o) (hTI : IsPair s.heap TI (.ref i1) (.ref i2))
    (h1 : s.heap.IsListIter i1 l1 k1) (h2 : s.heap.IsListIter i2 l2 k2) (hl1 : s.heap.IsList l1 xs) (hl2 : s.heap.IsList l2 ys) (hx : xs[k1]? = some x) (hy : ys[k2]? = some y)
    (hQ : ∀ h', IsZipA h' z TI TO T true → h'.IsListIter i1 l1 (k1 + 1) → h'.IsListIter i2 l2 (k2 + 1) → IsPair h' s.heap.objs.size x y → h'.objs.size = s.heap.objs.size + 1 →
      (∀ c o, c ≠ z → c ≠ i1 → c ≠ i2 → s.heap.get? c = some o → h'.get? c = some o) → Q (some (.ref s.heap.objs.size)) { s with heap := h' }) :
    wpAny (model prog w) A (pyNext (.ref z)) Q E s := by
  have hT' : s.TypeIs (.ref z) "zip" := ⟨_, hz, rfl⟩
  unfold pyNext
  exact wpAny_bind (wpAny_attempt (wpAny_callSpecial?_slot (name := Str.ofString "__next__") hT' F.slot_zip_next
    (wpAny_call_entry F.slot_zip_next hT' F.entry_zip_next
      (zip_next_alive D hz hT hTI h1 h2 hl1 hl2 hx hy fun h' a1 a2 a3 a4 a5 a6 => wpAny_pure (hQ h' a1 a2 a3 a4 a5 a6)) (F.args_zip_next_1 _))))
theorem pyNext_zip_alive_end {z TI TO T i1 i2 l1 l2 : Addr} {f1 : Bool} {o : Obj} {k1 k2 : Nat} {xs ys : Array Value} {Q : Option Value → Shared → Prop} (hh : A.handled = none) (D : ZipApart z TI TO i1 i2 l1 l2)
    (hz : IsZipA s.heap z TI TO T f1) (hT : s.heap.get? T = some o) (hTI : IsPair s.heap TI (.ref i1) (.ref i2))
    (h1 : s.heap.IsListIter i1 l1 k1) (hl1 : s.heap.IsList l1 xs) (hx : xs[k1]? = none)
    (hQ : ∀ h', (∀ c o, c ≠ z → c ≠ i1 → s.heap.get? c = some o → h'.get? c = some o) → Q none { s with heap := h' }) : wpAny (model prog w) A (pyNext (.ref z)) Q E s := by
  have hT' : s.TypeIs (.ref z) "zip" := ⟨_, hz, rfl⟩
  unfold pyNext
  refine wpAny_bind (wpAny_attempt (wpAny_callSpecial?_slot (name := Str.ofString "__next__") hT' F.slot_zip_next
    (wpAny_call_entry F.slot_zip_next hT' F.entry_zip_next (zip_end_alive (k2 := k2) (ys := ys) hh D hz hT hTI h1 hl1 hx fun h' e hk he => ?_) (F.args_zip_next_1 _))))
  obtain ⟨o, ho, hc⟩ := he
  refine wpAny_bind (wpAny_isInstance (T := "StopIteration") (b := true) ⟨o, ho, hc⟩ isSubtype_stop ?_)
  exact wpAny_pure (hQ _ hk)
end
variable {C : Cfg} {Φ : Orac} {c : Ctx} {H H' H'' H1 : Heap} {s s' s1 s2 : Shared} {h h' h'' : PHeap} {A : Around} {env : Env} {m m' : Loc}
theorem upd_cases {H : Heap} {b d : Nat} {o x : O} (e : (H.upd b o) d = some x) : (d = b ∧ x = o) ∨ (d ≠ b ∧ H d = some x) := by
  by_cases q : d = b
  · subst q; simp [Heap.upd] at e; exact .inl ⟨rfl, e.symm⟩
  · simp [Heap.upd, q] at e; exact .inr ⟨q, e⟩
theorem upd_other {b d : Nat} {o : O} (q : d ≠ b) : (H.upd b o) d = H d := by simp [Heap.upd, q]
theorem hid_upd {b d : Nat} {xs : List V} (z : Hid (H.upd b (.tup xs)) h d) : Hid H h d := by
  obtain ⟨a, c, fs, x, e1, e2, e3⟩ := z
  rcases upd_cases e1 with ⟨_, q⟩ | ⟨_, e1⟩
  · cases q
  · exact ⟨a, c, fs, x, e1, e2, e3⟩
theorem ExtS.adoptT (x : ExtS env H h H' h') {b : Addr} {xs : List V} (hz : h.get? b = none) : ExtS env H h (H'.upd b (.tup xs)) h' where
  keep := x.keep
  alive := x.alive
  fresh d f := by
    rcases f with ⟨y, f⟩ | ⟨y, f⟩ | f
    · rcases upd_cases f with ⟨_, q⟩ | ⟨_, f⟩
      · cases q
      · exact x.fresh _ (.inl ⟨y, f⟩)
    · rcases upd_cases f with ⟨_, q⟩ | ⟨_, f⟩
      · cases q
      · exact x.fresh _ (.inr (.inl ⟨y, f⟩))
    · exact x.fresh _ (.inr (.inr (hid_upd f)))
  dom d y e := by
    rcases upd_cases e with ⟨rfl, _⟩ | ⟨_, e⟩
    · exact .inr hz
    · exact x.dom _ _ e
theorem EnvSt.adoptT (x : EnvSt C c env m H h) {b : Addr} {xs : List V} (hl : b ≠ env.locals) (hc : ∀ y, env.cells.lookup y ≠ some b) : EnvSt C c env m (H.upd b (.tup xs)) h where
  len := x.len
  ns := x.ns
  cells := x.cells
  apL := ⟨by rw [upd_other (Ne.symm hl)]; exact x.apL.1, fun z => x.apL.2.1 (hid_upd z), x.apL.2.2⟩
  apC y a e := by
    obtain ⟨n1, n2, n3, n4, n5⟩ := x.apC y a e
    exact ⟨(upd_other (fun q => hc y (by rw [e, q]))).trans n1, fun z => n2 (hid_upd z), n3, n4, n5⟩
  injC := x.injC
noncomputable def ZipP (n p q k : Nat) (h : PHeap) : Prop := IsPair h (n + 2) (.ref n) (.ref (n + 1)) ∧ h.IsListIter n p k ∧ h.IsListIter (n + 1) q k ∧ ((IsZip h (n + 4) (n + 2) (n + 3) .none ∧ ∃ a b, IsPair h (n + 3) a b) ∨ ((∃ ob, h.get? (n + 3) = some ob) ∧ ∃ T f1 o, IsZipA h (n + 4) (n + 2) (n + 3) T f1 ∧ h.get? T = some o))
theorem ZipP.same {n p q k : Nat} (z : ZipP n p q k h) (e : ∀ b o, n ≤ b → b < n + 5 → h.get? b = some o → h'.get? b = some o) (al : ∀ b, h'.get? b = none → h.get? b = none) : ZipP n p q k h' := by
  obtain ⟨h1, h2, h3, h4⟩ := z
  refine ⟨e _ _ (by (first | lia | omega)) (by (first | lia | omega)) h1, h2.at fun o x => e _ _ (by (first | lia | omega)) (by (first | lia | omega)) x, h3.at fun o x => e _ _ (by (first | lia | omega)) (by (first | lia | omega)) x, ?_⟩
  rcases h4 with ⟨z1, a, b, z2⟩ | ⟨⟨ob, z1⟩, T, f1, o, z2, z3⟩
  · exact .inl ⟨e _ _ (by (first | lia | omega)) (by (first | lia | omega)) z1, a, b, e _ _ (by (first | lia | omega)) (by (first | lia | omega)) z2⟩
  · refine .inr ⟨⟨ob, e _ _ (by (first | lia | omega)) (by (first | lia | omega)) z1⟩, T, f1, ?_⟩
    cases q : h'.get? T with
    | none => rw [al T q] at z3; cases z3
    | some o' => exact ⟨o', e _ _ (by (first | lia | omega)) (by (first | lia | omega)) z2, rfl⟩
theorem ZipP.look {n p q k b : Nat} (z : ZipP n p q k h) (h1 : n ≤ b) (h2 : b < n + 5) : ∃ o, h.get? b = some o := by
  obtain ⟨z2, ⟨o4, z4, _⟩, ⟨o5, z5, _⟩, z⟩ := z
  have : b = n ∨ b = n + 1 ∨ b = n + 2 ∨ b = n + 3 ∨ b = n + 4 := by (first | lia | omega)
  rcases this with rfl | rfl | rfl | rfl | rfl
  · exact ⟨_, z4⟩
  · exact ⟨_, z5⟩
  · exact ⟨_, z2⟩
  · rcases z with ⟨_, a, b, z⟩ | ⟨⟨ob, z⟩, _⟩
    · exact ⟨_, z⟩
    · exact ⟨_, z⟩
  · rcases z with ⟨z, _⟩ | ⟨_, T, f1, o, z, _⟩
    · exact ⟨_, z⟩
    · exact ⟨_, z⟩
theorem forp_ok {x : Str} {px p pc pos : Pos} {e1 e2 : Expr} {me1 me2 : E} {b : List Stmt} {mb : List S} {i : Nat} {Q : PS} (O : C.Ok) (hx : trName c x = some i) (hg : c.isGlob "zip" = true) (s1' : isStar e1 = false) (s2' : isStar e2 = false) (he1 : SndE C Φ c e1 me1) (he2 : SndE C Φ c e2 me2) (hb : SndSs C Φ c b mb)
    (a : At C c env A m H s) (hw : wpS Φ (.forp i me1 me2 mb) m H Q) :
    wpAny C.M A (exec (.For (.Name x px) (.Call (.Name "zip" p) [e1, e2] [] pc) b [] pos) env) (PSs C c env H s Q) NoE s := by
  rw [s_forp] at hw
  have hw' : wpEs Φ [me1, me2] m H (on2 fun v u H => zipW v u H fun ps ok => forpL (wpSs Φ mb) i ok ps m H Q) := hw
  refine wpAny_For ?_ (fun _ => rfl)
  refine callT_ok O (by decide) rfl hg (by simp [s1', s2']) (items_cons s1' he1 (items_cons s2' he2 items_nil)) a hw' fun vs s1 xs H1 r a1 x1 q => ?_
  have g := q.get r
  clear q r
  obtain ⟨v, w, vx, vy, rfl, rfl, r1, r2, q⟩ := g
  unfold zipW at q
  split at q
  case h_2 => exact q.elim
  rename_i p'
  split at q
  case h_2 => exact q.elim
  rename_i q'
  cases r1.ref
  cases r2.ref
  obtain ⟨ps, ok1, fw⟩ := q
  have rp := a1.S.rep _ _ ok1.1
  have rq := a1.S.rep _ _ ok1.2
  obtain ⟨vs1, n1, l1, rr1, _⟩ := rp
  obtain ⟨vs2, n2, l2, rr2, _⟩ := rq
  refine call_zip_2 l1.isList l2.isList fun h2 z1 z2 z3 z4 z5 hsz hk2 => ?_
  have zp : p' < s1.heap.objs.size := Heap.lt_size l1
  have zq : q' < s1.heap.objs.size := Heap.lt_size l2
  have Z : ZipP s1.heap.objs.size p' q' 0 h2 := ⟨z2, z4, z5, .inl ⟨z1, _, _, z3⟩⟩
  refine wpAny_pyIter_zip z1 ?_
  clear z1 z2 z3 z4 z5
  obtain ⟨S2, x2⟩ := a1.S.grow (s' := { s1 with heap := h2 }) hk2 rfl rfl
  have a2 := a1.on S2 x2
  have xx2 := x1.trans x2
  have new : ∀ b, s1.heap.objs.size ≤ b → s1.heap.get? b = none := fun b hb => by
    cases q : s1.heap.get? b with
    | none => rfl
    | some o => exact absurd (Heap.lt_size q) (Nat.not_lt.mpr hb)
  have zs : ∀ b, s1.heap.objs.size ≤ b → s.heap.get? b = none := fun b hb => x1.alive _ (new b hb)
  have ap2 : ∀ b, s1.heap.objs.size ≤ b → Apart C H1 h2 b := fun b hb => (Apart.fresh a1.S (new b hb)).hidMono (hid_grow a1.S hk2)
  generalize s1.heap.objs.size = n at *
  let P : Addr → Prop := fun b => n ≤ b ∧ b < n + 5
  have hl : ¬ P env.locals := fun q => by
    obtain ⟨mm, ⟨o, es, ep, ho, hr⟩, hm⟩ := a.N.ns
    rw [zs _ q.1] at ho; cases ho
  have hc : ∀ x b, env.cells.lookup x = some b → ¬ P b := fun x b e q => by
    obtain ⟨_, _, _, _, o, lk⟩ := a.N.apC _ _ e
    rw [zs _ q.1] at lk; cases lk
  refine codeAny_mono (R := fun r s' => ∃ f, r = .ok f ∧ PSs C c env H s Q f s') ?_ (fun r s' z => by obtain ⟨f, rfl, z⟩ := z; exact z)
  refine codeAny_forLoop_any (fun nn s' => ∃ k m' H', nn = ps.length - k ∧ k ≤ ps.length ∧ forpL (wpSs Φ mb) i (zipOk p' q' ps) (ps.drop k) m' H' Q ∧ At C c env A m' H' s' ∧ ExtS env H s.heap H' s'.heap ∧ ZipP n p' q' k s'.heap ∧ ∀ b, P b → Apart C H' s'.heap b) (fun nn s1 hI => ?_) _ ⟨0, m, H1, rfl, Nat.zero_le _, fw, a2, xx2.toS, Z, fun b hb => ap2 b hb.1⟩
  clear fw a2 xx2 Z ap2 S2 x2 a1 x1 l1 l2 rr1 rr2 ok1 hk2 new
  obtain ⟨k, m1, H1, rfl, hkl, fw, a1, x1, Z1, ap1⟩ := hI
  have ok1 : zipOk p' q' ps H1 := by
    cases hd : ps.drop k with
    | nil => rw [hd] at fw; exact fw.1
    | cons x r => rw [hd] at fw; exact fw.1
  obtain ⟨vs1, n1, l1, rr1, _⟩ := a1.S.rep _ _ ok1.1
  obtain ⟨vs2, n2, l2, rr2, _⟩ := a1.S.rep _ _ ok1.2
  have D := zip_apart zp zq
  have P4 : P (n + 4) := ⟨Nat.le_add_right _ _, Nat.add_lt_add_left (by decide) _⟩
  have P3 : P (n + 3) := ⟨Nat.le_add_right _ _, Nat.add_lt_add_left (by decide) _⟩
  have P1 : P (n + 1) := ⟨Nat.le_add_right _ _, Nat.add_lt_add_left (by decide) _⟩
  have P0 : P n := ⟨Nat.le_refl _, Nat.lt_add_of_pos_right (by decide)⟩
  have ne : ∀ {b d : Addr}, ¬ P b → P d → b ≠ d := fun hb hd q => hb (q ▸ hd)
  have len1 : vs1.length = ps.length := by rw [rr1.length, List.length_map]
  have len2 : vs2.length = ps.length := by rw [rr2.length, List.length_map]
  obtain ⟨zTI, zi1, zi2, zz⟩ := id Z1
  cases hx' : ps[k]? with
  | none =>
    have hlen : ps.length ≤ k := List.getElem?_eq_none_iff.mp hx'
    rw [List.drop_eq_nil_of_le hlen] at fw
    have e1 : vs1.toArray[k]? = none := by rw [List.getElem?_toArray]; exact List.getElem?_eq_none (by (first | lia | omega))
    have done : ∀ h2, (∀ b o, ¬ P b → s1.heap.get? b = some o → h2.get? b = some o) → wpAny C.M A (execs [] env) (fun f s₃ => ∃ f', (Except.ok f : Result) = .ok f' ∧ PSs C c env H s Q f' s₃) (notedBy C.M A env fun e s' => ∃ f, (Except.error e : Result) = .ok f ∧ PSs C c env H s Q f s') { s1 with heap := h2 } := fun h2 keep => by
      obtain ⟨t1, t2⟩ := touchP P (s' := { s1 with heap := h2 }) a1 ap1 hl hc keep rfl rfl
      exact wpAny_execs_nil ⟨_, rfl, .next, m1, H1, trivial, t1.S, t1.N, x1.touchP (P := P) (fun b hb => zs b hb.1) keep t2, fw.2⟩
    rcases zz with ⟨z0, u, v, zTO⟩ | ⟨⟨ob, zTO⟩, T, f1, o, z0, zT⟩
    · exact wpAny_pyNext_zip_end a.ao.hd D z0 zTI zTO zi1 zi2 l1.isList l2.isList (.inl e1) fun h2 hk => done h2 fun b o nb e => hk b o (ne nb P4) (ne nb P3) (ne nb P0) (ne nb P1) e
    · exact pyNext_zip_alive_end (k2 := k) (ys := vs2.toArray) a.ao.hd D z0 zT zTI zi1 l1.isList e1 fun h2 hk => done h2 fun b o nb e => hk b o (ne nb P4) (ne nb P0) e
  | some xy =>
    have hlt : k < ps.length := lt_of_get' hx'
    have hd : ps.drop k = xy :: ps.drop (k + 1) := by
      rw [List.drop_eq_getElem_cons hlt]
      rw [List.getElem?_eq_getElem hlt] at hx'
      rw [Option.some.inj hx']
    rw [hd] at fw
    obtain ⟨vx, ex, rx⟩ := rr1.fst hx'
    obtain ⟨vy, ey, ry⟩ := rr2.snd hx'
    have ex' : vs1.toArray[k]? = some vx := by rw [List.getElem?_toArray]; exact ex
    have ey' : vs2.toArray[k]? = some vy := by rw [List.getElem?_toArray]; exact ey
    have fr : s1.heap.get? s1.heap.objs.size = none := look_size _
    have body : ∀ h2, (∀ b o, ¬ P b → s1.heap.get? b = some o → h2.get? b = some o) → IsPair h2 s1.heap.objs.size vx vy → ZipP n p' q' (k + 1) h2 →
        wpAny C.M A (letOwnedTupleGo (.Name x px) (.ref (n + 4)) (.ref s1.heap.objs.size)) (fun _ s₁' => wpAny C.M A (assign (.Name x px) env (.ref s1.heap.objs.size)) (fun _ s₂ => wpAny C.M A (execs b env) (fun f s₃ => match f with
            | .next | .cont => ∃ nn, nn < ps.length - k ∧ ∃ k m' H', nn = ps.length - k ∧ k ≤ ps.length ∧ forpL (wpSs Φ mb) i (zipOk p' q' ps) (ps.drop k) m' H' Q ∧ At C c env A m' H' s₃ ∧ ExtS env H s.heap H' s₃.heap ∧ ZipP n p' q' k s₃.heap ∧ ∀ b, P b → Apart C H' s₃.heap b
            | .brk => ∃ f', (Except.ok PySem.Flow.next : Result) = .ok f' ∧ PSs C c env H s Q f' s₃
            | .ret v => ∃ f', (Except.ok (PySem.Flow.ret v) : Result) = .ok f' ∧ PSs C c env H s Q f' s₃) (notedBy C.M A env fun e s' => ∃ f, (Except.error e : Result) = .ok f ∧ PSs C c env H s Q f s') s₂) (notedBy C.M A env fun e s' => ∃ f, (Except.error e : Result) = .ok f ∧ PSs C c env H s Q f s') s₁') (notedBy C.M A env fun e s' => ∃ f, (Except.error e : Result) = .ok f ∧ PSs C c env H s Q f s') { s1 with heap := h2 } := by
      intro h2 keep hT Z2
      generalize s1.heap.objs.size = T at fr hT
      show wpAny _ A (pure ()) _ _ _
      refine wpAny_pure ?_
      obtain ⟨t1, t2⟩ := touchP P (s' := { s1 with heap := h2 }) a1 ap1 hl hc keep rfl rfl
      have zT : s.heap.get? T = none := x1.alive _ fr
      have hTl : T ≠ env.locals := fun q => by
        obtain ⟨mm, ⟨o, es, ep, ho, hr⟩, hm⟩ := a.N.ns
        rw [← q, zT] at ho; cases ho
      have hTc : ∀ y, env.cells.lookup y ≠ some T := fun y e => by
        obtain ⟨_, _, _, _, o, lk⟩ := a.N.apC _ _ e
        rw [zT] at lk; cases lk
      have hT0 : H1 T = none := a1.S.none_of fr
      have apT : Apart C H1 h2 T := (Apart.fresh a1.S fr).hidMono t2
      have S3 : StH C (H1.upd T (.tup [xy.1, xy.2])) { s1 with heap := h2 } := t1.S.adopt apT (fun _ _ q => by cases q) ⟨[vx, vy], ⟨_, hT, rfl, 0, rfl⟩, .cons rx (.cons ry .nil), by show 2 ≤ 2 * 1000000; decide⟩
      have t3 : At C c env A m1 (H1.upd T (.tup [xy.1, xy.2])) { s1 with heap := h2 } := t1.then S3 (t1.N.adoptT hTl hTc)
      have x3 := (x1.touchP (P := P) (fun b hb => zs b hb.1) keep t2).adoptT (xs := [xy.1, xy.2]) zT
      have ap3 : ∀ b, P b → Apart C (H1.upd T (.tup [xy.1, xy.2])) h2 b := fun b hb => by
        have q := (ap1 b hb).hidMono t2
        obtain ⟨o, e⟩ := Z1.look hb.1 hb.2
        exact ⟨by rw [upd_other (fun q => by rw [q, fr] at e; cases e)]; exact q.at_, fun z => q.hid (hid_upd z), q.base⟩
      refine wpAny_noE (wpAny_assign_Name (store_ok hx t3 (v := .ref T) rfl fun s5 S5 N5 x5 => ?_))
      have hl' : ∀ b, P b → b ≠ env.locals := fun b hb q => hl (q ▸ hb)
      have hc' : ∀ b, P b → ∀ x, env.cells.lookup x ≠ some b := fun b hb x q => hc x b q hb
      have ap5 : ∀ b o, P b → h2.get? b = some o → s5.heap.get? b = some o ∧ Apart C (H1.upd T (.tup [xy.1, xy.2])) s5.heap b := fun b o hb e => x5.apart e (ap3 b hb) (hl' b hb) (hc' b hb)
      refine wpAny_mono (hb (t3.then S5 N5) (fw.2 T hT0)) (fun fl s7 z => ?_) fun _ _ f => f.elim
      obtain ⟨mfl, m7, H7, r7, S7, N7, x7, H8, l8, q7⟩ := z
      have xx := ((x3.trans x5).trans x7).forget l8
      have ap7 : ∀ b o, P b → h2.get? b = some o → s7.heap.get? b = some o ∧ Apart C H8 s7.heap b := fun b o hb e =>
        let ⟨e5, a5⟩ := ap5 b o hb e
        let ⟨e7, a7⟩ := x7.apart e5 a5 (hl' b hb) (hc' b hb)
        ⟨e7, a7.le l8⟩
      have go : forpL (wpSs Φ mb) i (zipOk p' q' ps) (ps.drop (k + 1)) m7 H8 Q → ∃ nn, nn < ps.length - k ∧ ∃ k m' H', nn = ps.length - k ∧ k ≤ ps.length ∧ forpL (wpSs Φ mb) i (zipOk p' q' ps) (ps.drop k) m' H' Q ∧ At C c env A m' H' s7 ∧ ExtS env H s.heap H' s7.heap ∧ ZipP n p' q' k s7.heap ∧ ∀ b, P b → Apart C H' s7.heap b := fun q =>
        ⟨ps.length - (k + 1), by (first | lia | omega), k + 1, m7, H8, rfl, hlt, q, a.then (S7.forget l8) (N7.forget l8), xx, Z2.same (fun b o b1 b2 e => (ap7 b o ⟨b1, b2⟩ e).1) (fun b e => x5.alive b (x7.alive b e)), fun b hb => let ⟨o, e⟩ := Z2.look hb.1 hb.2; (ap7 b o hb e).2⟩
      cases fl with
      | next => cases mfl <;> first | exact r7.elim | exact go q7
      | cont => cases mfl <;> first | exact r7.elim | exact go q7
      | brk => cases mfl <;> first | exact r7.elim | exact ⟨_, rfl, .next, m7, H8, trivial, S7.forget l8, N7.forget l8, xx, q7⟩
      | ret v => cases mfl <;> first | exact r7.elim | exact ⟨_, rfl, _, m7, H8, r7, S7.forget l8, N7.forget l8, xx, q7⟩
    have zTI' : ∀ {h2 : PHeap}, (∀ c o, c ≠ n + 4 → c ≠ n + 3 → c ≠ n → c ≠ n + 1 → s1.heap.get? c = some o → h2.get? c = some o) → IsPair h2 (n + 2) (.ref n) (.ref (n + 1)) := fun hk => hk _ _ D.TIz D.TITO D.TIi1 D.TIi2 zTI
    rcases zz with ⟨z0, u, v, zTO⟩ | ⟨⟨ob, zTO⟩, T, f1, o, z0, zT⟩
    · refine wpAny_pyNext_zip_item D z0 zTI zTO zi1 zi2 l1.isList l2.isList ex' ey' fun h2 a1' a2' a3' a4' a5' a6' hk => ?_
      exact body h2 (fun b o nb e => hk b o (ne nb P4) (ne nb P3) (ne nb P0) (ne nb P1) e) a5' ⟨zTI' hk, a3', a4', .inr ⟨⟨_, a2'⟩, _, false, _, a1', a5'⟩⟩
    · refine pyNext_zip_alive D z0 zT zTI zi1 zi2 l1.isList l2.isList ex' ey' fun h2 a1' a3' a4' a5' a6' hk => ?_
      have keep : ∀ b o, ¬ P b → s1.heap.get? b = some o → h2.get? b = some o := fun b o nb e => hk b o (ne nb P4) (ne nb P0) (ne nb P1) e
      have zT' : ∃ o', h2.get? T = some o' := by
        by_cases q : P T
        · obtain ⟨o', e'⟩ := Z1.look q.1 q.2
          by_cases q4 : T = n + 4
          · subst q4; exact ⟨_, a1'⟩
          · by_cases q0 : T = n
            · subst q0; obtain ⟨o4, z4, _⟩ := a3'; exact ⟨_, z4⟩
            · by_cases q1 : T = n + 1
              · subst q1; obtain ⟨o4, z4, _⟩ := a4'; exact ⟨_, z4⟩
              · exact ⟨_, hk _ _ q4 q0 q1 e'⟩
        · exact ⟨_, keep _ _ q zT⟩
      obtain ⟨o', zT'⟩ := zT'
      exact body h2 keep a5' ⟨hk _ _ D.TIz D.TIi1 D.TIi2 zTI, a3', a4', .inr ⟨⟨ob, hk _ _ D.TOz D.TOi1 D.TOi2 zTO⟩, T, true, o', a1', zT'⟩⟩
end ML
namespace ML
open PySem PySem.W PySem.Calls PyProof.Rows PySem.SeqAt
variable {C : Cfg} {Φ : Orac} {c : Ctx} {H H' H'' H1 : Heap} {s s' s1 s2 : Shared} {h h' h'' : PHeap} {A : Around} {env : Env} {m m' : Loc}
variable {Q : PV} {pos pos' : Pos} {e o i : Expr} {me mo mi : E}
theorem attr_ok {x : Str} {j : Nat} (O : C.Ok) (hb : bareCall o = false) (hx : attrIs j x) (ho : SndE C Φ c o mo) (a : At C c env A m H s) (hw : wpE Φ (.attr mo j) m H Q) :
    wpAny C.M A (eval (.Attribute o x pos) env) (PE C H s Q) NoE s := by
  simp only [w_var, w_lit, w_bop, w_neg, w_cmp, w_cmp2, w_and, w_or, w_not, w_call, w_meth, w_new, w_prim, w_attr, w_idx, w_slice, w_list, w_tup, w_comp] at hw
  refine Attribute_any_ (ho.then a hw fun ov s1 z H1 r1 a1 x1 q1 => ?_) (by rw [arm_eval_Attribute, base_of hb])
  unfold attrW at q1
  split at q1
  · rename_i p
    cases r1.ref
    split at q1
    · rename_i ci fs hp
      obtain ⟨v, hl, q⟩ := q1
      exact wpAny_ext (getAttr_ok O a1.S hp hx hl q) fun _ _ z => PE.ext x1 z
    · exact q1.elim
  · exact q1.elim
theorem sub_plain (hi : isSlice i = false) : ∀ o v : Value, subscripted i false o v = operate [o, v] (getItem o v) := by
  cases i <;> first | (intro o v; rfl) | cases hi
theorem index_ok (hi : isSlice i = false) (ho : SndE C Φ c o mo) (hii : SndE C Φ c i mi) (a : At C c env A m H s) (hw : wpE Φ (.idx mo mi) m H Q) :
    wpAny C.M A (eval (.Subscript o i pos) env) (PE C H s Q) NoE s := by
  simp only [w_var, w_lit, w_bop, w_neg, w_cmp, w_cmp2, w_and, w_or, w_not, w_call, w_meth, w_new, w_prim, w_attr, w_idx, w_slice, w_list, w_tup, w_comp] at hw
  refine Subscript_ (ho.then a hw fun ov s1 x H1 r1 a1 x1 q1 => hii.then a1 q1 fun iv s2 y H2 r2 a2 x2 q2 => ?_)
  refine wpAny_ext (idx_ok a2.S r1 r2 q2 (sub_plain hi)) fun v s3 z => ?_
  obtain ⟨mv, H3, r3, S3, x3, rfl, q3⟩ := z
  exact ⟨mv, H3, r3, S3, (x1.trans x2).trans x3, q3⟩
theorem not_debug (O : C.Ok) {x : Str} {f : Nat} (h : C.tab.fns.lookup x = some f ∨ C.tab.cls.lookup x = some f) : (x == ("__debug__" : Str)) = false := beq_eq_false_iff_ne.mpr fun q => by
  subst q
  rcases h with h | h
  · rw [O.nodbg.1] at h; cases h
  · rw [O.nodbg.2] at h; cases h
theorem fits_ok {f : Nat} (h : c.fits f = true) : ∃ l, c.tab.lv.lookup f = some l ∧ l < c.top := by
  unfold Ctx.fits at h
  split at h
  · rename_i l e; exact ⟨l, e, of_decide_eq_true h⟩
  · cases h
theorem trEs_star {f : Expr → Option E} {es : List Expr} {mes : List E} (h : trEs f es = some mes) : es.any isStar = false := by
  unfold trEs at h
  split at h
  · cases h
  · rename_i q
    simp only [Bool.or_eq_true, not_or, Bool.not_eq_true] at q
    exact q.1
noncomputable def isNotU (e : Expr) : Bool := if h : e.ctorIdx = 3 then Expr.UnaryOp.elim (motive_1 := fun _ => Bool) e h (fun op _ _ => op.ctorIdx == 1) else false
noncomputable def plainTest (e : Expr) : Bool := !(e.ctorIdx == 0 || e.ctorIdx == 5 || e.ctorIdx == 15 || isNotU e)
theorem isTrue_of {e : Expr} (h : plainTest e = true) : isTrue e env (eval e env) = (do let v ← eval e env; standAt e.pos; holding [v] (truthy v)) := by
  cases e with
  | UnaryOp op x p => cases op <;> first | rfl | cases h
  | _ => first | rfl | cases h
noncomputable def plainE (e : E) : Bool := !(e.ctorIdx == 4 || e.ctorIdx == 5 || e.ctorIdx == 6 || e.ctorIdx == 7 || e.ctorIdx == 8)
theorem wpT_plain {me : E} {Q : Bool → Heap → Prop} (h : plainE me = true) (hw : wpT Φ me m H Q) : wpE Φ me m H fun v H => truthW v H fun r => Q r H := by
  cases me <;> first | exact hw | cases h
theorem sndT_of {e : Expr} {me : E} (h1 : plainTest e = true) (h2 : plainE me = true) (h : SndE C Φ c e me) : SndT C Φ c e me := fun {env A m H s Q} a hw => tval_ok h a (wpT_plain h2 hw) (isTrue_of h1)
theorem range_call {vs : List Value} {xs : List V} {Q : PV} (S : StH C H s) (r : All2 RepV vs xs) (hw : primW .range xs H Q) : wpAny C.M A (call (.type "range") vs []) (PE C H s Q) NoE s := by
  replace hw : rangeW xs H Q := hw
  unfold rangeW at hw
  split at hw
  · rename_i i j
    obtain ⟨v, w, rfl, r1, r2⟩ := r.two
    obtain ⟨t, rfl⟩ := r1.int
    obtain ⟨u, rfl⟩ := r2.int
    obtain ⟨h1, h2, hw⟩ := hw
    refine call_range_2 ?_
    obtain ⟨S', E'⟩ := S.alloc (ob := { cls := .type "range", data := .fields #[.int i t, .int j u, .int 1 s.toks] }) (o := .rng i j) (tk := s.toks + 1) rfl (fun _ _ q => by cases q) ⟨⟨t, u, s.toks, Heap.get?_push_size _ rfl⟩, h1, h2⟩
    exact ⟨.ref _, _, rfl, S', E', hw _ S.fresh_none⟩
  · exact hw.elim
theorem prim_ok {f : Str} {p pos : Pos} {es : List Expr} {mes : List E} {q : Prim} (O : C.Ok) (hg : c.isGlob f = true) (hp : trPrim f es.length = some q) (hs : es.any isStar = false) (h : SndEs C Φ c es mes) (a : At C c env A m H s) (hw : wpE Φ (.prim q mes) m H Q) :
    wpAny C.M A (eval (.Call (.Name f p) es [] pos) env) (PE C H s Q) NoE s := by
  simp only [w_var, w_lit, w_bop, w_neg, w_cmp, w_cmp2, w_and, w_or, w_not, w_call, w_meth, w_new, w_prim, w_attr, w_idx, w_slice, w_list, w_tup, w_comp] at hw
  have key : ∀ (N : String), f ∈ bltNames → bootBuiltins f = some (.builtin N) → (∀ {s1 : Shared} {H1 : Heap} {vs : List Value} {xs : List V}, A.handled = none → StH C H1 s1 → All2 RepV vs xs → primW q xs H1 Q → wpAny C.M A (call (.builtin N) vs []) (PE C H1 s1 Q) NoE s1) → wpAny C.M A (eval (.Call (.Name f p) es [] pos) env) (PE C H s Q) NoE s := by
    intro N h1 h2 h3
    exact callB_ok O h1 h2 hg hs h a hw fun vs s1 xs H1 r a1 x1 q1 => wpAny_ext (h3 a1.ao.hd a1.S r q1) fun _ _ z => PE.ext x1 z
  unfold trPrim at hp
  split at hp
  · rename_i e; simp only [Bool.and_eq_true, beq_iff_eq] at e; cases hp; cases e.1; exact key "len" (by decide) rfl len_call
  split at hp
  · rename_i e; simp only [Bool.and_eq_true, beq_iff_eq] at e; cases hp; cases e.1; exact key "min" (by decide) rfl min_call
  split at hp
  · rename_i e; simp only [Bool.and_eq_true, beq_iff_eq] at e; cases hp; cases e.1; exact key "max" (by decide) rfl max_call
  split at hp
  · rename_i e; simp only [Bool.and_eq_true, beq_iff_eq] at e; cases hp; cases e.1; exact key "sum" (by decide) rfl sum_call
  split at hp
  · rename_i e; simp only [Bool.and_eq_true, beq_iff_eq] at e; cases hp; cases e.1
    exact callT_ok (N := "range") O (by decide) rfl hg hs h a hw fun vs s1 xs H1 r a1 x1 q1 => wpAny_ext (range_call a1.S r q1) fun _ _ z => PE.ext x1 z
  · cases hp
theorem gName_ok {c : Ctx} {e : Expr} {y : Str} (h : gName c e = some y) : ∃ p, e = .Name y p ∧ c.isGlob y = true := by
  unfold gName at h
  split at h
  · rename_i x hx
    split at h
    · rename_i q; cases h; obtain ⟨p, rfl⟩ := nameOf_ok hx; exact ⟨p, rfl, q⟩
    · cases h
  · cases h
theorem trPrimC_ok {tr : Expr → Option E} {f : Str} {p pos : Pos} {es : List Expr} (O : C.Ok) (hg : c.isGlob f = true) (hf : ∀ e me, tr e = some me → SndE C (phi C) c e me) (h : trPrimC c tr f es = some me) :
    SndE C (phi C) c (.Call (.Name f p) es [] pos) me ∧ plainE me = true := by
  unfold trPrimC at h
  split at h
  · rename_i q hq
    simp only [Option.bind_eq_bind, Option.bind_eq_some_iff, Option.some.injEq] at h
    obtain ⟨mes, h1, rfl⟩ := h
    exact ⟨fun {env A m H s Q} a hw => prim_ok O hg hq (trEs_star h1) (items_ok hf h1) a hw, rfl⟩
  · cases h
theorem trCall_ok {tr : Expr → Option E} {f : Str} {p pos : Pos} {es : List Expr} (O : C.Ok) (ht : c.tab = C.tab) (hf : ∀ e me, tr e = some me → SndE C (phi C) c e me) (h : trCall c tr f es = some me) :
    SndE C (phi C) c (.Call (.Name f p) es [] pos) me ∧ plainE me = true := by
  unfold trCall at h
  split at h
  · cases h
  rename_i hg
  have hg : c.isGlob f = true := by simpa using hg
  split at h
  · rename_i i hi
    rw [ht] at hi
    split at h
    · rename_i hfit
      simp only [Option.bind_eq_bind, Option.bind_eq_some_iff, Option.some.injEq] at h
      obtain ⟨mes, h1, rfl⟩ := h
      obtain ⟨l, hl, hlt⟩ := fits_ok hfit
      rw [ht] at hl
      exact ⟨fun {env A m H s Q} a hw => call_ok O (trEs_star h1) (items_ok hf h1) hg (not_debug O (.inl hi)) hi hl hlt a hw, rfl⟩
    · cases h
  · split at h
    · rename_i i hi
      rw [ht] at hi
      split at h
      · rename_i hfit
        simp only [Option.bind_eq_bind, Option.bind_eq_some_iff, Option.some.injEq] at h
        obtain ⟨mes, h1, rfl⟩ := h
        obtain ⟨l, hl, hlt⟩ := fits_ok hfit
        rw [ht] at hl
        obtain ⟨Ca, hc⟩ := O.hasCls _ _ hi
        exact ⟨fun {env A m H s Q} a hw => new_ok O (trEs_star h1) (items_ok hf h1) hg (not_debug O (.inr hi)) hi hc hl hlt a hw, rfl⟩
      · cases h
    · split at h
      · cases h
      · exact trPrimC_ok O hg hf h
end ML
namespace ML
open PySem PySem.W PySem.Calls PyProof.Rows PySem.SeqAt
variable {C : Cfg} {Φ : Orac} {c : Ctx} {H H' H'' H1 : Heap} {s s' s1 s2 : Shared} {A : Around} {env : Env} {m m' : Loc}
end ML
namespace ML
open PySem PySem.W PySem.Calls PyProof.Rows PySem.SeqAt
variable {C : Cfg}
noncomputable def notSetE (tr : Expr → Option E) : Prop := ∀ e me, tr e = some me → notSet e = true
theorem typeCall_ok {c : Ctx} {e a : Expr} (h : typeCall c e = some a) : ∃ p1 p2, e = .Call (.Name "type" p1) [a] [] p2 ∧ c.isGlob "type" = true := by
  unfold typeCall at h
  split at h
  · rename_i x hx
    cases callOf_ok hx
    obtain ⟨t, args, kws, p2⟩ := x
    split at h
    · rename_i hk
      cases isNil_ok hk
      replace h : typeOfArg c t args = some a := h
      match args, h with
      | [x], h =>
        have h : (if gName c t == some "type" then some x else none) = some a := h
        split at h
        · rename_i q
          cases h
          obtain ⟨p, rfl, g⟩ := gName_ok (eq_of_beq q)
          exact ⟨p, p2, rfl, g⟩
        · cases h
      | [], h => cases h
      | _ :: _ :: _, h => cases h
    · cases h
  · cases h
theorem typeTest_ok {c : Ctx} {l r a : Expr} {op : CmpOp} {q : Prim} {neg : Bool} (h : typeTest c l op r = some (a, q, neg)) :
    ∃ p1 p2 y p3, l = .Call (.Name "type" p1) [a] [] p2 ∧ r = .Name y p3 ∧ c.isGlob "type" = true ∧ c.isGlob y = true ∧ trTy y = some q ∧ ((op = .Is ∧ neg = false) ∨ (op = .IsNot ∧ neg = true)) := by
  unfold typeTest at h
  split at h
  · rename_i a' h1
    split at h
    · rename_i neg' h2
      split at h
      · rename_i y h3
        obtain ⟨q', e1, e2⟩ := Option.map_eq_some_iff.mp h
        cases e2
        obtain ⟨p1, p2, rfl, g1⟩ := typeCall_ok h1
        obtain ⟨p3, rfl, g2⟩ := gName_ok h3
        refine ⟨p1, p2, y, p3, rfl, rfl, g1, g2, e1, ?_⟩
        cases op <;> cases h2
        · exact .inl ⟨rfl, rfl⟩
        · exact .inr ⟨rfl, rfl⟩
      · cases h
    · cases h
  · cases h
theorem trE_set {n : Nat} {c : Ctx} {e : Expr} {me : E} (h : trE n c e = some me) : notSet e = true := by
  cases n with
  | zero => cases h
  | succ n => cases e <;> first | rfl | cases h
theorem trE_star {n : Nat} {c : Ctx} {e : Expr} {me : E} (h : trE n c e = some me) : isSlice e = false := by
  cases n with
  | zero => cases h
  | succ n => cases e <;> first | rfl | cases h
theorem folded_of {e : Expr} (h : notSet e = true) : ∀ (env : Env) x, foldedSetIterable e env x = pure x := by
  cases e <;> first | (intro env x; rfl) | cases h
theorem trRange_ok {c : Ctx} {tr : Expr → Option E} {args : List Expr} {p q : Pos} {src : Src} (O : C.Ok) (hg : c.isGlob "range" = true) (hf : ∀ e me, tr e = some me → SndE C (phi C) c e me) (h : trRange tr args = some src) : SndSrc C (phi C) c (.Call (.Name "range" p) args [] q) src := by
  unfold trRange at h
  split at h
  · rename_i n
    split at h
    · cases h
    · rename_i hs
      simp only [Option.bind_eq_bind, Option.bind_eq_some_iff, Option.some.injEq] at h
      obtain ⟨mn, h1, rfl⟩ := h
      exact src_rng1 O hg (by simpa using hs) (hf _ _ h1)
  · rename_i a b
    split at h
    · cases h
    · rename_i hs
      simp only [Bool.or_eq_true, not_or, Bool.not_eq_true] at hs
      simp only [Option.bind_eq_bind, Option.bind_eq_some_iff, Option.some.injEq] at h
      obtain ⟨ma, h1, mb, h2, rfl⟩ := h
      exact src_rng2 O hg hs.1 hs.2 (hf _ _ h1) (hf _ _ h2)
  · cases h
theorem trSrc_ok {c : Ctx} {tr : Expr → Option E} {e : Expr} {src : Src} (O : C.Ok) (hf : ∀ e me, tr e = some me → SndE C (phi C) c e me) (h : trSrc c tr e = some src) : SndSrc C (phi C) c e src ∧ notSet e = true := by
  unfold trSrc at h
  split at h
  · rename_i as hr
    unfold rangeArgs at hr
    split at hr
    · rename_i x hx
      cases callOf_ok hx
      obtain ⟨g, args, kws, q⟩ := x
      split at hr
      · rename_i hk
        obtain ⟨h1, h2⟩ := Bool.and_eq_true_iff.mp hk
        cases isNil_ok h1
        cases hr
        obtain ⟨p, e1, hg⟩ := gName_ok (eq_of_beq h2)
        replace e1 : g = .Name "range" p := e1
        subst e1
        exact ⟨fun {env A m H s Q R} a hw k => trRange_ok O hg hf h a hw k, rfl⟩
      · cases hr
    · cases hr
  · split at h
    · cases h
    · rename_i hs
      simp only [Option.bind_eq_bind, Option.bind_eq_some_iff, Option.some.injEq] at h
      obtain ⟨me, h3, rfl⟩ := h
      exact ⟨src_of (hf _ _ h3), by unfold notSet; simpa using hs⟩
noncomputable abbrev Both (C : Cfg) (c : Ctx) (e : Expr) (me : E) : Prop := SndE C (phi C) c e me ∧ SndT C (phi C) c e me
theorem both {c : Ctx} {e : Expr} {me : E} (h1 : plainTest e = true) (h2 : plainE me = true) (h3 : SndE C (phi C) c e me) : Both C c e me := ⟨h3, sndT_of h1 h2 h3⟩
section
variable {c : Ctx} {f : Expr → Option E} {e l r o i x : Expr} {me : E} {p : Pos}
theorem const_ok {k : Const} {n : Nat} (O : C.Ok) (ht : c.tab = C.tab) (h : trConst c k = some me) : Both C c (.Constant k n p) me := by
  refine both rfl ?_ fun {env A m H s Q} a hw => lit_ok (by rw [ht]; exact O.sts) h a hw
  unfold trConst at h
  split at h <;> first | (cases h; rfl) | (cases h; done) | (obtain ⟨_, _, rfl⟩ := Option.map_eq_some_iff.mp h; rfl)
theorem var_ok {y : Str} (h : trVar c y = some me) : Both C c (.Name y p) me := by
  unfold trVar at h
  split at h
  · rename_i k hk
    split at h
    · rename_i hv
      simp only [Bool.and_eq_true, Bool.not_eq_true', Bool.not_eq_eq_eq_not, Bool.not_true] at hv
      obtain ⟨i, hi, rfl⟩ := Option.map_eq_some_iff.mp h
      exact both rfl rfl fun {env A m H s Q} a hw => name_ok hv.1.2 hv.2 hk hv.1.1 hi a hw
    · cases h
  · cases h
theorem bin_ok {op : Operator} (hE : ∀ e me, f e = some me → SndE C (phi C) c e me) (h : trBin f l op r = some me) : Both C c (.BinOp l op r p) me := by
  simp only [trBin, Option.bind_eq_bind, Option.bind_eq_some_iff, Option.some.injEq] at h
  obtain ⟨mop, h0, ml, h1, mr, h2, rfl⟩ := h
  exact both rfl rfl fun {env A m H s Q} a hw => binop_ok (hE _ _ h1) (hE _ _ h2) h0 a hw
theorem un_ok {op : UnaryOp} (hE : ∀ e me, f e = some me → SndE C (phi C) c e me) (hT : ∀ e me, f e = some me → SndT C (phi C) c e me) (h : trUn f op x = some me) : Both C c (.UnaryOp op x p) me := by
  unfold trUn at h
  split at h
  · simp only [Option.bind_eq_bind, Option.bind_eq_some_iff, Option.some.injEq] at h
    obtain ⟨mx, h1, rfl⟩ := h
    exact ⟨fun {env A m H s Q} a hw => not_ok (hE _ _ h1) a hw, fun {env A m H s Q} a hw => tnot_ok (hT _ _ h1) a hw⟩
  · simp only [Option.bind_eq_bind, Option.bind_eq_some_iff, Option.some.injEq] at h
    obtain ⟨mx, h1, rfl⟩ := h
    exact both rfl rfl fun {env A m H s Q} a hw => usub_ok (hE _ _ h1) a hw
  · cases h
theorem cmp1_ok {op : CmpOp} (O : C.Ok) (hE : ∀ e me, f e = some me → SndE C (phi C) c e me) (hS : ∀ e me, f e = some me → notSet e = true) (h : trCmp1 c f l op r = some me) : Both C c (.Compare l [op] [r] p) me := by
  unfold trCmp1 at h
  split at h
  · rename_i a q neg hq
    obtain ⟨p1, p2, y, p3, rfl, rfl, g1, g2, hty, hop⟩ := typeTest_ok hq
    unfold trTy1 at h
    split at h
    · cases h
    · rename_i hs
      have hs : isStar a = false := by simpa using hs
      simp only [Option.bind_eq_bind, Option.bind_eq_some_iff, Option.some.injEq] at h
      obtain ⟨ma, h1, rfl⟩ := h
      exact ⟨fun {env A m H s Q} a hw => ty_expr O g1 g2 hs (hE _ _ h1) hty hop a hw, fun {env A m H s Q} a hw => ty_test O g1 g2 hs (hE _ _ h1) hty hop a hw⟩
  · simp only [Option.bind_eq_bind, Option.bind_eq_some_iff, Option.some.injEq] at h
    obtain ⟨ml, h1, mr, h2, rfl⟩ := h
    exact ⟨fun {env A m H s Q} a hw => cmp_expr (hE _ _ h1) (hE _ _ h2) (hS _ _ h2) a hw, fun {env A m H s Q} a hw => cmp_test (hE _ _ h1) (hE _ _ h2) (hS _ _ h2) a hw⟩
theorem cmps_ok {ops : List CmpOp} {rs : List Expr} (O : C.Ok) (hE : ∀ e me, f e = some me → SndE C (phi C) c e me) (hS : ∀ e me, f e = some me → notSet e = true) (h : trCmps c f l ops rs = some me) : Both C c (.Compare l ops rs p) me := by
  unfold trCmps at h
  split at h
  · exact cmp1_ok O hE hS h
  · simp only [Option.bind_eq_bind, Option.bind_eq_some_iff, Option.some.injEq] at h
    obtain ⟨ml, h1, mr, h2, md, h3, rfl⟩ := h
    exact ⟨fun {env A m H s Q} a hw => cmp2_expr (hE _ _ h1) (hE _ _ h2) (hE _ _ h3) (hS _ _ h3) a hw, fun {env A m H s Q} a hw => cmp2_test (hE _ _ h1) (hE _ _ h2) (hE _ _ h3) (hS _ _ h3) a hw⟩
  · cases h
theorem trMeth_ok {name : Str} {args : List Expr} {ap cp : Pos} (O : C.Ok) (ht : c.tab = C.tab) (hE : ∀ e me, f e = some me → SndE C (phi C) c e me) (h : trMeth c f o name args (ap.endLine == cp.line) = some me) : Both C c (.Call (.Attribute o name ap) args [] cp) me := by
  unfold trMeth at h
  split at h
  · cases h
  · rename_i hb
    simp only [Bool.or_eq_true, not_or, Bool.not_eq_true, Bool.not_eq_true', Bool.not_eq_false] at hb
    split at h
    · rename_i f hf
      split at h
      · rename_i hfit
        simp only [Option.bind_eq_bind, Option.bind_eq_some_iff, Option.some.injEq] at h
        obtain ⟨mo, h1, mes, h2, rfl⟩ := h
        obtain ⟨l, hl, hlt⟩ := fits_ok hfit
        rw [ht] at hl hf
        exact both rfl rfl fun {env A m H s Q} a hw => meth_ok O hb.1 (by simpa using hb.2) (trEs_star h2) (trEs_len h2) (hE _ _ h1) (items_ok hE h2) hf hl hlt a hw
      · cases h
    · cases h
theorem calls_ok {g : Expr} {args : List Expr} {cp : Pos} (O : C.Ok) (ht : c.tab = C.tab) (hE : ∀ e me, f e = some me → SndE C (phi C) c e me) (h : trCalls c f cp args g = some me) : Both C c (.Call g args [] cp) me := by
  unfold trCalls at h
  split at h
  · rename_i y hy
    obtain ⟨q, rfl⟩ := nameOf_ok hy
    obtain ⟨h1, h2⟩ := trCall_ok (p := q) (pos := cp) O ht hE h
    exact both rfl h2 h1
  · split at h
    · rename_i x hx
      cases attrOf_ok hx
      exact trMeth_ok O ht hE h
    · cases h
theorem attrE_ok {y : Str} (O : C.Ok) (ht : c.tab = C.tab) (hE : ∀ e me, f e = some me → SndE C (phi C) c e me) (h : trAttr c f o y = some me) : Both C c (.Attribute o y p) me := by
  unfold trAttr at h
  split at h
  · cases h
  · rename_i hb
    split at h
    · rename_i i hi
      simp only [Option.bind_eq_bind, Option.bind_eq_some_iff, Option.some.injEq] at h
      obtain ⟨mo, h1, rfl⟩ := h
      rw [ht, O.ats] at hi
      exact both rfl rfl fun {env A m H s Q} a hw => attr_ok O (by simpa using hb) hi (hE _ _ h1) a hw
    · cases h
theorem sub_ok (hE : ∀ e me, f e = some me → SndE C (phi C) c e me) (hS : ∀ e me, f e = some me → isSlice e = false) (h : trSub f o i = some me) : Both C c (.Subscript o i p) me := by
  unfold trSub at h
  split at h
  · rename_i x hx
    obtain ⟨q, rfl⟩ := sliceOf_ok hx
    obtain ⟨lo, hi, st⟩ := x
    cases st with
    | some _ => cases h
    | none =>
      replace h : (do some (.slice (← f o) (← trO f lo) (← trO f hi)) : Option E) = some me := h
      simp only [Option.bind_eq_bind, Option.bind_eq_some_iff, Option.some.injEq] at h
      obtain ⟨mo, h1, ml, h2, mh, h3, rfl⟩ := h
      exact both rfl rfl fun {env A m H s Q} a hw => slice_ok hE (hE _ _ h1) h2 h3 a hw
  · simp only [Option.bind_eq_bind, Option.bind_eq_some_iff, Option.some.injEq] at h
    obtain ⟨mo, h1, mi, h2, rfl⟩ := h
    exact both rfl rfl fun {env A m H s Q} a hw => index_ok (hS _ _ h2) (hE _ _ h1) (hE _ _ h2) a hw
theorem cond_ok {ifs : List Expr} {mc : Option E} (hT : ∀ e me, f e = some me → SndT C (phi C) c e me) (h : trCond f ifs = some mc) : SndC C (phi C) c ifs mc := by
  unfold trCond at h
  split at h
  · cases h; exact .inl ⟨rfl, rfl⟩
  · simp only [Option.bind_eq_bind, Option.bind_eq_some_iff, Option.some.injEq] at h
    obtain ⟨mt, h4, rfl⟩ := h
    exact .inr ⟨_, mt, rfl, rfl, hT _ _ h4⟩
  · cases h
end
theorem comps_get {c : Ctx} {f : Ctx → Expr → Option E} {elt : Expr} {sc : Scope} {gs : List Comprehension} {me : E} (O : C.Ok) (ht : c.tab = C.tab) (hf : ∀ c' e me, c'.tab = c.tab → f c' e = some me → Both C c' e me) (h : trComps c f elt sc gs = some me) :
    ∃ tg iter ifs rest, gs = ⟨tg, iter, ifs, 0⟩ :: rest ∧ plainE me = true ∧ CompB c sc ∧ CompMainG C (phi C) c sc elt tg iter ifs rest me ∧ (∀ (env : Env) x, foldedSetIterable iter env x = pure x) := by
  match gs, h with
  | [], h => cases h
  | _ :: _ :: _, h => cases h
  | [⟨t, iter, ifs, n⟩], h =>
    replace h : (if n == 0 then trComp1 c f elt sc iter ifs t else none) = some me := h
    split at h
    · rename_i hn
      cases eq_of_beq hn
      unfold trComp1 at h
      split at h
      · rename_i x hx
        obtain ⟨px, rfl⟩ := nameOf_ok hx
        split at h
        · rename_i hk
          simp only [Option.bind_eq_bind, Option.bind_eq_some_iff, Option.some.injEq] at h
          obtain ⟨melt, h1, src, h2, mc, h3, rfl⟩ := h
          obtain ⟨hsrc, hns⟩ := trSrc_ok O (fun e me h => (hf c e me rfl h).1) h2
          exact ⟨.Name x px, iter, ifs, [], rfl, rfl, (compOk_ok hk).toB, CompMain.toG (comp_main (compOk_ok hk) hsrc (hf (c.inner1 sc x) _ _ rfl h1).1 (cond_ok (fun e me h => (hf (c.inner1 sc x) e me rfl h).2) h3)), folded_of hns⟩
        · cases h
      · cases h
    · cases h
theorem trE_ok (O : C.Ok) : ∀ (n : Nat) (c : Ctx) (e : Expr) (me : E), c.tab = C.tab → trE n c e = some me → Both C c e me := by
  intro n
  induction n with
  | zero => intro c e me _ h; cases h
  | succ n ih =>
    intro c e me ht h
    have hE : ∀ e me, trE n c e = some me → SndE C (phi C) c e me := fun e me h => (ih c e me ht h).1
    have hT : ∀ e me, trE n c e = some me → SndT C (phi C) c e me := fun e me h => (ih c e me ht h).2
    cases e with
    | Constant k n' p => exact const_ok O ht h
    | Name x p => exact var_ok h
    | BinOp l op r p => exact bin_ok hE h
    | UnaryOp op x p => exact un_ok hE hT h
    | BoolOp op vs p => exact ⟨bool_expr hE h, fun {env A m H s Q} a hw => bool_test hT h a hw⟩
    | Compare l ops rs p => exact cmps_ok O hE (fun _ _ => trE_set) h
    | Call g args kws cp => cases kws with
      | nil => exact calls_ok O ht hE h
      | cons _ _ => cases h
    | Attribute o a p => exact attrE_ok O ht hE h
    | Subscript o i p => exact sub_ok hE (fun _ _ => trE_star) h
    | List es p =>
      replace h : (do some (.list (← trEs (trE n c) es)) : Option E) = some me := h
      simp only [Option.bind_eq_bind, Option.bind_eq_some_iff, Option.some.injEq] at h
      obtain ⟨mes, h1, rfl⟩ := h
      exact both rfl rfl fun {env A m H s Q} a hw => list_ok (trEs_len h1) (items_ok hE h1) a hw
    | Tuple es k p =>
      replace h : (do some (.tup (← trEs (trE n c) es)) : Option E) = some me := h
      simp only [Option.bind_eq_bind, Option.bind_eq_some_iff, Option.some.injEq] at h
      obtain ⟨mes, h1, rfl⟩ := h
      exact both rfl rfl fun {env A m H s Q} a hw => tuple_ok (trEs_len h1) (items_ok hE h1) a hw
    | ListComp elt gs sc p =>
      obtain ⟨tg, iter, ifs, rest, rfl, hpl, K, hM, hfo⟩ := comps_get O ht (fun c' e me h1 h2 => ih c' e me (h1.trans ht) h2) h
      exact both rfl hpl fun {env A m H s Q} a hw => comp_expr K hM hfo a hw
    | _ => cases h
theorem swaps_no {e : Expr} (h : isComp e = false) (t : Option Expr) (line : Nat) (env : Env) : swapsWith e t line env = pure false := by
  cases e <;> first | rfl | cases h
section
variable {c : Ctx} {p : Pos}
theorem trSetIdx_ok {t v : Expr} {ms : S} (O : C.Ok) (ht : c.tab = C.tab) (h : trSetIdx c v t = some ms) : SndS C (phi C) c (.Assign [t] v p) ms := by
  have hE : ∀ e me, trE deep c e = some me → SndE C (phi C) c e me := fun e me h => (trE_ok O deep c e me ht h).1
  unfold trSetIdx at h
  split at h
  · rename_i x hx
    obtain ⟨q, rfl⟩ := subOf_ok hx
    split at h
    · cases h
    · rename_i hc
      simp only [Bool.or_eq_true, not_or, Bool.not_eq_true] at hc
      simp only [Option.bind_eq_bind, Option.bind_eq_some_iff, Option.some.injEq] at h
      obtain ⟨mo, h1, mi, h2, mv, h3, rfl⟩ := h
      intro env A m H s Q a hw
      exact setidx_ok hc.1 hc.2 (hE _ _ h3) (hE _ _ h1) (hE _ _ h2) a hw
  · cases h
theorem trSetAttr_ok {v o : Expr} {x : Str} {px : Pos} {ms : S} (O : C.Ok) (ht : c.tab = C.tab) (h : trSetAttr c v ⟨o, x, px⟩ = some ms) : SndS C (phi C) c (.Assign [.Attribute o x px] v p) ms := by
  have hE : ∀ e me, trE deep c e = some me → SndE C (phi C) c e me := fun e me h => (trE_ok O deep c e me ht h).1
  unfold trSetAttr at h
  split at h
  · cases h
  · rename_i hc
    split at h
    · rename_i i hi
      simp only [Option.bind_eq_bind, Option.bind_eq_some_iff, Option.some.injEq] at h
      obtain ⟨mo, h1, mv, h2, rfl⟩ := h
      rw [ht, O.ats] at hi
      intro env A m H s Q a hw
      exact setattr_ok O hi (hE _ _ h2) (hE _ _ h1) (by simpa using hc) a hw
    · cases h
theorem trAssign_ok {t v : Expr} {ms : S} (O : C.Ok) (ht : c.tab = C.tab) (h : trAssign c v t = some ms) : SndS C (phi C) c (.Assign [t] v p) ms := by
  unfold trAssign at h
  split at h
  · rename_i x hx
    obtain ⟨px, rfl⟩ := nameOf_ok hx
    simp only [Option.bind_eq_bind, Option.bind_eq_some_iff, Option.some.injEq] at h
    obtain ⟨i, h0, mv, h1, rfl⟩ := h
    rcases Bool.eq_false_or_eq_true (isComp v) with hc | hc
    · cases v <;> first | (cases h1; done) | (cases hc; done) | skip
      obtain ⟨tg, iter, ifs, rest, rfl, hpl, K, hM, hfo⟩ := comps_get O ht (fun c' e me h1 h2 => trE_ok O 39 c' e me (h1.trans ht) h2) h1
      intro env A m H s Q a hw
      exact comp_assign h0 K hM hfo a hw
    · intro env A m H s Q a hw
      exact assign_ok h0 (trE_ok O deep c v mv ht h1).1 (fun env => swaps_no hc _ _ env) a hw
  · split at h
    · rename_i x hx
      cases attrOf_ok hx
      exact fun {env A m H s Q} a hw => trSetAttr_ok O ht h a hw
    · exact fun {env A m H s Q} a hw => trSetIdx_ok O ht h a hw
theorem trDel_ok {ts : List Expr} {ms : S} (O : C.Ok) (ht : c.tab = C.tab) (h : trDel c ts = some ms) : SndS C (phi C) c (.Delete ts p) ms := by
  unfold trDel at h
  split at h
  · rename_i t ht'
    cases one_ok ht'
    split at h
    · rename_i x hx
      obtain ⟨q, rfl⟩ := subOf_ok hx
      split at h
      · cases h
      · rename_i hc
        simp only [Option.bind_eq_bind, Option.bind_eq_some_iff, Option.some.injEq] at h
        obtain ⟨mo, h1, mi, h2, rfl⟩ := h
        intro env A m H s Q a hw
        exact delidx_ok (by simpa using hc) (trE_ok O deep c _ _ ht h1).1 (trE_ok O deep c _ _ ht h2).1 a hw
    · cases h
  · cases h
theorem appendOf_ok {v : Expr} {x : AppX} (h : appendOf v = some x) : ∃ ap cp, v = .Call (.Attribute x.o "append" ap) [x.e] [] cp ∧ x.fit = (ap.endLine == cp.line) := by
  unfold appendOf at h
  split at h
  · rename_i y hy
    cases callOf_ok hy
    obtain ⟨g, args, kws, cp⟩ := y
    split at h
    · rename_i hk
      cases isNil_ok hk
      split at h
      · rename_i a ha
        cases attrOf_ok ha
        obtain ⟨o, nm, ap⟩ := a
        split at h
        · rename_i hn
          cases eq_of_beq hn
          obtain ⟨e, h1, rfl⟩ := Option.map_eq_some_iff.mp h
          cases one_ok h1
          exact ⟨ap, cp, rfl, rfl⟩
        · cases h
      · cases h
    · cases h
  · cases h
theorem trAppend_ok {o e : Expr} {ap cp : Pos} {ms : S} (O : C.Ok) (ht : c.tab = C.tab) (h : trAppend c o e (ap.endLine == cp.line) = some ms) : SndS C (phi C) c (.Expr (.Call (.Attribute o "append" ap) [e] [] cp) p) ms := by
  unfold trAppend at h
  split at h
  · cases h
  · rename_i hc
    simp only [Bool.or_eq_true, not_or, Bool.not_eq_true, Bool.not_eq_true', Bool.not_eq_false] at hc
    simp only [Option.bind_eq_bind, Option.bind_eq_some_iff, Option.some.injEq] at h
    obtain ⟨mo, h1, me, h2, rfl⟩ := h
    intro env A m H s Q a hw
    exact append_ok hc.1.1 hc.1.2 (by simpa using hc.2) (trE_ok O deep c _ _ ht h1).1 (trE_ok O deep c _ _ ht h2).1 a hw
theorem trExprS_ok {v : Expr} {ms : S} (O : C.Ok) (ht : c.tab = C.tab) (h : trExprS c v = some ms) : SndS C (phi C) c (.Expr v p) ms := by
  unfold trExprS at h
  split at h
  · cases h
  · rename_i hc
    simp only [Option.bind_eq_bind, Option.bind_eq_some_iff, Option.some.injEq] at h
    obtain ⟨me, h1, rfl⟩ := h
    intro env A m H s Q a hw
    exact expr_ok (trE_ok O deep c _ me ht h1).1 (by simpa using hc) a hw
theorem trRet_ok {e : Option Expr} {ms : S} (O : C.Ok) (ht : c.tab = C.tab) (h : trRet c e = some ms) : SndS C (phi C) c (.Return e p) ms := by
  cases e with
  | none => cases h; intro env A m H s Q a hw; exact ret0_ok a hw
  | some e =>
    simp only [trRet, Option.bind_eq_bind, Option.bind_eq_some_iff, Option.some.injEq] at h
    obtain ⟨me, h1, rfl⟩ := h
    intro env A m H s Q a hw
    exact ret_ok (trE_ok O deep c _ me ht h1).1 a hw
theorem forZ2_get {x y : Str} {ob : Option (List S)} {as : List Expr} {ms : S} (h : forZ2 c x y ob as = some ms) : ∃ e1 e2 i j m1 m2 mb, as = [e1, e2] ∧ isStar e1 = false ∧ isStar e2 = false ∧ trName c x = some i ∧ trName c y = some j ∧ trE deep c e1 = some m1 ∧ trE deep c e2 = some m2 ∧ ob = some mb ∧ ms = .forz i j m1 m2 mb := by
  match as, h with
  | [], h => cases h
  | [_], h => cases h
  | _ :: _ :: _ :: _, h => cases h
  | [e1, e2], h =>
    replace h : (if isStar e1 || isStar e2 then none else do some (.forz (← trName c x) (← trName c y) (← trE deep c e1) (← trE deep c e2) (← ob)) : Option S) = some ms := h
    split at h
    case isTrue => cases h
    rename_i hs
    simp only [Bool.or_eq_true, not_or, Bool.not_eq_true] at hs
    simp only [Option.bind_eq_bind, Option.bind_eq_some_iff, Option.some.injEq] at h
    obtain ⟨i, h1, j, h2, m1, h3, m2, h4, mb, h5, rfl⟩ := h
    exact ⟨e1, e2, i, j, m1, m2, mb, rfl, hs.1, hs.2, h1, h2, h3, h4, h5, rfl⟩
theorem trForZ_ok {t iter : Expr} {b : List Stmt} {ob : Option (List S)} {ms : S} (O : C.Ok) (ht : c.tab = C.tab) (hB : ∀ mb, ob = some mb → SndSs C (phi C) c b mb) (h : trForZ c iter ob t = some ms) : SndS C (phi C) c (.For t iter b [] p) ms := by
  unfold trForZ at h
  split at h
  case h_2 => cases h
  rename_i es hes
  obtain ⟨kt, pt, rfl⟩ := tupZ_ok hes
  match es, h with
  | [], h => cases h
  | [_], h => cases h
  | _ :: _ :: _ :: _, h => cases h
  | [t1, t2], k9 =>
    replace k9 : (match nameOf t1, nameOf t2, callOf iter with
      | some x, some y, some z => if isNil z.kws && gName c z.f == some "zip" then forZ2 c x y ob z.args else none
      | _, _, _ => none) = some ms := k9
    split at k9
    case h_2 => cases k9
    rename_i x y z hx hy hz
    split at k9
    case isFalse => cases k9
    rename_i hb
    obtain ⟨b1, b2⟩ := Bool.and_eq_true_iff.mp hb
    obtain ⟨px, rfl⟩ := nameOf_ok hx
    obtain ⟨py, rfl⟩ := nameOf_ok hy
    cases callOf_ok hz
    obtain ⟨f, as, kws, pc⟩ := z
    dsimp only at *
    cases isNil_ok b1
    obtain ⟨pz, rfl, hg⟩ := gName_ok (eq_of_beq b2)
    obtain ⟨e1, e2, i, j, m1, m2, mb, rfl, hs1, hs2, h1, h2, h3, h4, h5, rfl⟩ := forZ2_get k9
    intro env A m H s Q a hw
    exact forz_ok O h1 h2 hg hs1 hs2 (trE_ok O deep c _ _ ht h3).1 (trE_ok O deep c _ _ ht h4).1 (hB _ h5) a hw
theorem zipArgs_ok {e : Expr} {as : List Expr} (h : zipArgs c e = some as) : ∃ pz pc, e = .Call (.Name "zip" pz) as [] pc ∧ c.isGlob "zip" = true := by
  unfold zipArgs at h
  split at h
  case h_2 => cases h
  rename_i z hz
  split at h
  case isFalse => cases h
  rename_i hb
  obtain ⟨b1, b2⟩ := Bool.and_eq_true_iff.mp hb
  cases callOf_ok hz
  obtain ⟨f, as', kws, pc⟩ := z
  dsimp only at *
  cases isNil_ok b1
  obtain ⟨pz, rfl, hg⟩ := gName_ok (eq_of_beq b2)
  cases h
  exact ⟨pz, pc, rfl, hg⟩
theorem forP2_get {x : Str} {ob : Option (List S)} {as : List Expr} {ms : S} (h : forP2 c x ob as = some ms) : ∃ e1 e2 i m1 m2 mb, as = [e1, e2] ∧ isStar e1 = false ∧ isStar e2 = false ∧ trName c x = some i ∧ trE deep c e1 = some m1 ∧ trE deep c e2 = some m2 ∧ ob = some mb ∧ ms = .forp i m1 m2 mb := by
  match as, h with
  | [], h => cases h
  | [_], h => cases h
  | _ :: _ :: _ :: _, h => cases h
  | [e1, e2], h =>
    replace h : (if isStar e1 || isStar e2 then none else do some (.forp (← trName c x) (← trE deep c e1) (← trE deep c e2) (← ob)) : Option S) = some ms := h
    split at h
    case isTrue => cases h
    rename_i hs
    simp only [Bool.or_eq_true, not_or, Bool.not_eq_true] at hs
    simp only [Option.bind_eq_bind, Option.bind_eq_some_iff, Option.some.injEq] at h
    obtain ⟨i, h1, m1, h3, m2, h4, mb, h5, rfl⟩ := h
    exact ⟨e1, e2, i, m1, m2, mb, rfl, hs.1, hs.2, h1, h3, h4, h5, rfl⟩
theorem trForN_ok {x : Str} {px : Pos} {iter : Expr} {b : List Stmt} {ob : Option (List S)} {ms : S} (O : C.Ok) (ht : c.tab = C.tab) (hB : ∀ mb, ob = some mb → SndSs C (phi C) c b mb) (h : trForN c iter ob x = some ms) : SndS C (phi C) c (.For (.Name x px) iter b [] p) ms := by
  unfold trForN at h
  split at h
  · rename_i as has
    obtain ⟨pz, pc, rfl, hg⟩ := zipArgs_ok has
    obtain ⟨e1, e2, i, m1, m2, mb, rfl, hs1, hs2, h1, h3, h4, h5, rfl⟩ := forP2_get h
    intro env A m H s Q a hw
    exact forp_ok O h1 hg hs1 hs2 (trE_ok O deep c _ _ ht h3).1 (trE_ok O deep c _ _ ht h4).1 (hB _ h5) a hw
  · simp only [Option.bind_eq_bind, Option.bind_eq_some_iff, Option.some.injEq] at h
    obtain ⟨i, h0, src, h1, mb, h2, rfl⟩ := h
    obtain ⟨hsrc, hns⟩ := trSrc_ok O (fun e me h => (trE_ok O deep c e me ht h).1) h1
    intro env A m H s Q a hw
    exact for_ok h0 hsrc (hB _ h2) (folded_of hns) a hw
theorem trFor_ok {t iter : Expr} {b : List Stmt} {ob : Option (List S)} {ms : S} (O : C.Ok) (ht : c.tab = C.tab) (hB : ∀ mb, ob = some mb → SndSs C (phi C) c b mb) (h : trForS c iter ob t = some ms) : SndS C (phi C) c (.For t iter b [] p) ms := by
  unfold trForS at h
  split at h
  · rename_i x hx
    obtain ⟨px, rfl⟩ := nameOf_ok hx
    exact fun {env A m H s Q} a hw => trForN_ok O ht hB h a hw
  · exact fun {env A m H s Q} a hw => trForZ_ok O ht hB h a hw
end
theorem trS_ok (O : C.Ok) : ∀ (n : Nat) (c : Ctx) (st : Stmt) (ms : S), c.tab = C.tab → trS n c st = some ms → SndS C (phi C) c st ms := by
  intro n
  induction n with
  | zero => intro c st ms _ h; cases h
  | succ n ih =>
    intro c st ms ht h
    have hT : ∀ e me, trE deep c e = some me → SndT C (phi C) c e me := fun e me h => (trE_ok O deep c e me ht h).2
    have hB : ∀ {sts : List Stmt} {mss : List S}, mapO (trS n c) sts = some mss → SndSs C (phi C) c sts mss := fun h => execs_ok (fun st ms h => ih c st ms ht h) h
    cases st with
    | Assign ts v p =>
      match ts, h with
      | [t], h => exact fun {env A m H s Q} a hw => trAssign_ok O ht h a hw
      | [], h => cases h
      | _ :: _ :: _, h => cases h
    | Delete ts p => exact fun {env A m H s Q} a hw => trDel_ok O ht h a hw
    | Expr v p =>
      replace h : (match appendOf v with | some x => trAppend c x.o x.e x.fit | none => trExprS c v) = some ms := h
      split at h
      · rename_i x ha
        obtain ⟨ap, cp, rfl, e1⟩ := appendOf_ok ha
        rw [e1] at h
        exact fun {env A m H s Q} a hw => trAppend_ok O ht h a hw
      · exact fun {env A m H s Q} a hw => trExprS_ok O ht h a hw
    | Return e p => exact fun {env A m H s Q} a hw => trRet_ok O ht h a hw
    | If t a b p =>
      replace h : (do some (.ite (← trE deep c t) (← mapO (trS n c) a) (← mapO (trS n c) b)) : Option S) = some ms := h
      simp only [Option.bind_eq_bind, Option.bind_eq_some_iff, Option.some.injEq] at h
      obtain ⟨mt, h1, ma, h2, mb, h3, rfl⟩ := h
      intro env A m H s Q a hw
      exact if_ok (hT _ _ h1) (hB h2) (hB h3) a hw
    | While t b e p =>
      cases e with
      | nil =>
        replace h : (do some (.whl (← trE deep c t) (← mapO (trS n c) b)) : Option S) = some ms := h
        simp only [Option.bind_eq_bind, Option.bind_eq_some_iff, Option.some.injEq] at h
        obtain ⟨mt, h1, ma, h2, rfl⟩ := h
        intro env A m H s Q a hw
        exact while_ok (hT _ _ h1) (hB h2) a hw
      | cons _ _ => cases h
    | For t iter b e p =>
      cases e with
      | nil => exact fun {env A m H s Q} a hw => trFor_ok O ht (fun mb h => hB h) h a hw
      | cons _ _ => cases h
    | Break p => cases h; intro env A m H s Q a hw; exact brk_ok a hw
    | Pass p => cases h; intro env A m H s Q a hw; exact pass_ok a hw
    | _ => cases h
end ML
namespace ML
open PySem PySem.W PySem.Calls PyProof.Rows PySem.SeqAt
variable {C : Cfg} {Φ : Orac} {c : Ctx} {H H' H'' H1 : Heap} {s s' s1 s2 : Shared} {h h' h'' : PHeap} {A : Around} {env : Env} {m m' : Loc}
theorem zip_lookup : ∀ {ns : List Str} {vs : List Value}, ns.Nodup → ns.length = vs.length → ns.filterMap (fun n => ((ns.zip vs).lookup n).map (n, ·)) = ns.zip vs := by
  have key : ∀ (ns : List Str) (vs : List Value) (pre : List (Str × Value)), ns.Nodup → ns.length = vs.length → (∀ n ∈ ns, pre.lookup n = none) → ns.filterMap (fun n => ((pre ++ ns.zip vs).lookup n).map (n, ·)) = ns.zip vs := by
    intro ns
    induction ns with
    | nil => intro vs pre _ _ _; rfl
    | cons n ns ih =>
      intro vs pre hn hl hp
      cases vs with
      | nil => cases hl
      | cons v vs =>
        rw [List.nodup_cons] at hn
        have e : (pre ++ (n :: ns).zip (v :: vs)).lookup n = some v := by
          rw [List.lookup_append, hp n (.head _)]
          simp [List.zip_cons_cons, List.lookup]
        rw [List.filterMap_cons, e]
        simp only [Option.map_some, List.zip_cons_cons]
        congr 1
        have := ih vs (pre ++ [(n, v)]) hn.2 (by simpa using hl) (fun k hk => by
          rw [List.lookup_append, hp k (.tail _ hk)]
          simp only [List.lookup, Option.none_or]
          have : (k == n) = false := beq_eq_false_iff_ne.mpr fun q => hn.1 (q ▸ hk)
          rw [this])
        simpa using this
  intro ns vs h1 h2
  simpa using key ns vs [] h1 h2 (fun _ _ => rfl)
theorem bind_ok {fd : FuncData} {vals : List Value} (h0 : fd.params.posonlyargs = []) (h1 : fd.params.vararg = none) (h2 : fd.params.kwonlyargs = []) (h3 : fd.params.kwarg = none) (hd : fd.defaults = .none)
    (hn : (fd.params.args.map (·.arg)).Nodup) (hl : vals.length = (fd.params.args.map (·.arg)).length) : bindArgs fd ⟨vals, []⟩ = pure ((fd.params.args.map (·.arg)).zip vals) := by
  obtain ⟨f1, f2, ⟨g1, g2, g3, g4, g5, g6, g7⟩, f4, f5, f6, f7, f8, f9, f10, f11⟩ := fd
  dsimp only at h0 h1 h2 h3 hd hn hl ⊢
  subst h0
  subst h1
  subst h2
  subst h3
  subst hd
  have z := zip_lookup hn hl.symm
  have hm : List.filter (fun n => (List.lookup n ((g2.map (·.arg)).zip vals)).isNone) (g2.map (·.arg)) = [] := by
    rw [List.filter_eq_nil_iff]
    intro n hmem
    rw [← List.map_fst_zip (l₁ := g2.map (·.arg)) (l₂ := vals) (by (first | lia | omega))] at hmem
    obtain ⟨⟨n', v⟩, hp, rfl⟩ := List.mem_map.mp hmem
    obtain ⟨b, hb⟩ := lookup_some hp
    rw [hb]; exact Bool.false_ne_true
  unfold bindArgs
  refine (if_neg ?_).trans ?_
  · show ¬ ((decide ((g2.map (·.arg)).length < vals.length) && true) = true)
    rw [hl, decide_eq_false (Nat.lt_irrefl _)]; exact Bool.false_ne_true
  refine (if_neg ?_).trans ?_
  · show ¬ ((!(List.filter (fun n => (List.lookup n ((g2.map (·.arg)).zip vals)).isNone) ((g2.map (·.arg)).take ((g2.map (·.arg)).length - (List.drop (0 - (g2.map (·.arg)).length) ([] : List Value)).length))).isEmpty) = true)
    rw [List.drop_nil, List.length_nil, Nat.sub_zero, List.take_length, hm]; exact Bool.false_ne_true
  have e : ((g2.map (·.arg)).drop ((g2.map (·.arg)).length - (List.drop (0 - (g2.map (·.arg)).length) ([] : List Value)).length)).zip (List.drop (0 - (g2.map (·.arg)).length) ([] : List Value)) = [] := by rw [List.drop_nil, List.zip_nil_right]
  refine (congrArg (fun l => forIn (m := Sem) l _ _ >>= _) e).trans ?_
  show (pure (List.filterMap (fun n => Option.map (fun x => (n, x)) (List.lookup n ((g2.map (·.arg)).zip vals))) (g2.map (·.arg) ++ [])) : Sem (List (Str × Value))) = _
  rw [List.append_nil, z]
theorem nodupB_ok : ∀ {l : List Str}, nodupB l = true → l.Nodup
  | [], _ => List.nodup_nil
  | x :: r, h => by
    simp only [nodupB, Bool.and_eq_true, Bool.not_eq_true', Bool.not_eq_eq_eq_not, Bool.not_true] at h
    rw [List.nodup_cons]
    exact ⟨fun q => by rw [List.contains_iff_mem.mpr q] at h; exact absurd h.1 (by decide), nodupB_ok h.2⟩
theorem bindL_out {K : Str → Option NameKind} : ∀ {binds : List (Str × Value)} {mm : Str → Option Value} {x : Str}, x ∉ binds.map (·.1) → bindL K binds mm x = mm x
  | [], _, _, _ => rfl
  | (n, v) :: r, mm, x, h => by
    simp only [List.map_cons, List.mem_cons, not_or] at h
    unfold bindL
    rw [bindL_out h.2]
    split
    · exact if_neg h.1
    · rfl
theorem bindC_out {K : Str → Option NameKind} : ∀ {binds : List (Str × Value)} {mm : Str → Option Value} {x : Str}, x ∉ binds.map (·.1) → bindC K binds mm x = mm x
  | [], _, _, _ => rfl
  | (n, v) :: r, mm, x, h => by
    simp only [List.map_cons, List.mem_cons, not_or] at h
    unfold bindC
    rw [bindC_out h.2]
    split
    · rfl
    · exact if_neg h.1
theorem bindL_at {K : Str → Option NameKind} {x : Str} {v : Value} (hk : K x = some .local) : ∀ {binds : List (Str × Value)} {mm : Str → Option Value}, (binds.map (·.1)).Nodup → (x, v) ∈ binds → bindL K binds mm x = some v
  | (n, w) :: r, mm, hn, h => by
    rw [List.map_cons, List.nodup_cons] at hn
    unfold bindL
    cases h with
    | head => rw [bindL_out hn.1, if_pos hk]; exact if_pos rfl
    | tail _ h => exact bindL_at hk hn.2 h
theorem bindC_at {K : Str → Option NameKind} {x : Str} {v : Value} (hk : K x ≠ some .local) : ∀ {binds : List (Str × Value)} {mm : Str → Option Value}, (binds.map (·.1)).Nodup → (x, v) ∈ binds → bindC K binds mm x = some v
  | (n, w) :: r, mm, hn, h => by
    rw [List.map_cons, List.nodup_cons] at hn
    unfold bindC
    cases h with
    | head => rw [bindC_out hn.1, if_neg hk]; exact if_pos rfl
    | tail _ h => exact bindC_at hk hn.2 h
theorem lookup_of_nodup {α : Type} : ∀ {l : List (Str × α)} {x : Str} {a : α}, (l.map (·.1)).Nodup → (x, a) ∈ l → l.lookup x = some a
  | (y, b) :: r, x, a, hn, h => by
    rw [List.map_cons, List.nodup_cons] at hn
    cases h with
    | head => simp [List.lookup]
    | tail _ h =>
      have : (x == y) = false := beq_eq_false_iff_ne.mpr fun q => hn.1 (q ▸ List.mem_map_of_mem (f := (·.1)) h)
      simp only [List.lookup, this]
      exact lookup_of_nodup hn.2 h
theorem zipIdx_lookup {l : List Str} (hn : l.Nodup) {x : Str} {i : Nat} : l.zipIdx.lookup x = some i ↔ l[i]? = some x := by
  constructor
  · intro h
    have := lookup_mem h
    rw [List.mem_zipIdx_iff_getElem?] at this
    exact this
  · intro h
    refine lookup_of_nodup (by rw [List.zipIdx_map_fst]; exact hn) ?_
    rw [List.mem_zipIdx_iff_getElem?]; exact h
theorem cellsFrom_has : ∀ {names : List (Str × NameKind)} {n : Nat} {acc : List (Str × Addr)} {x : Str}, ((x, NameKind.cell) ∈ names ∨ ∃ a, (x, a) ∈ acc) → ∃ a, (x, a) ∈ cellsFrom n names acc
  | [], _, _, _, h => by
    rcases h with h | h
    · cases h
    · exact h
  | (y, k) :: r, n, acc, x, h => by
    unfold cellsFrom
    split
    · refine cellsFrom_has ?_
      rcases h with h | ⟨a, h⟩
      · cases h with
        | head => exact .inr ⟨n, .head _⟩
        | tail _ h => exact .inl h
      · exact .inr ⟨a, .tail _ h⟩
    · rename_i hk
      refine cellsFrom_has ?_
      rcases h with h | h
      · cases h with
        | head => exact absurd (by rfl) hk
        | tail _ h => exact .inl h
      · exact .inr h
structure FShape (params : List Str) (sc : Scope) : Prop where
  nodup : (sc.names.map (·.1)).Nodup
  par : (ownNames sc.names).take params.length = params
  kind : sc.kind = .function
  gen : sc.isGenerator = false
  co : sc.isCoroutine = false
  free : ∀ p ∈ sc.names, p.2 ≠ .free
theorem fShape_ok {params : List Str} {sc : Scope} (h : fShape params sc = true) : FShape params sc := by
  unfold fShape at h
  simp only [Bool.and_eq_true, Bool.not_eq_true', Bool.not_eq_eq_eq_not, Bool.not_true, List.all_eq_true] at h
  refine absG fun Cg hCg => ?_
  obtain ⟨⟨⟨⟨⟨h1, h2⟩, h3⟩, h4⟩, h5⟩, h6⟩ := h
  refine hCg ?_; clear hCg
  exact ⟨nodupB_ok h1, eq_of_beq h2, by simpa using h3, h4, h5, fun p hp q => by have := h6 p hp; rw [q] at this; cases this⟩
theorem own_nodup {sc : Scope} (h : (sc.names.map (·.1)).Nodup) : (ownNames sc.names).Nodup := by
  unfold ownNames
  exact List.Nodup.sublist (List.Sublist.map _ List.filter_sublist) h
theorem own_mem {sc : Scope} {x : Str} (h : x ∈ ownNames sc.names) : (x, NameKind.local) ∈ sc.names ∨ (x, NameKind.cell) ∈ sc.names := by
  unfold ownNames at h
  refine absG fun Cg hCg => ?_
  obtain ⟨⟨y, k⟩, hp, rfl⟩ := List.mem_map.mp h
  refine hCg ?_; clear hCg
  rw [List.mem_filter] at hp
  simp only [Bool.or_eq_true, beq_iff_eq] at hp
  rcases hp.2 with q | q
  · exact .inl (q ▸ hp.1)
  · exact .inr (q ▸ hp.1)
theorem Ext.ofCall {h₁ : PHeap} (S : StH C H s) (hk : ∀ b o, s.heap.get? b = some o → h₁.get? b = some o) (x : ExtS env H h₁ H' h') (hL : s.heap.get? env.locals = none) (hC : ∀ y a, env.cells.lookup y = some a → s.heap.get? a = none) : Ext H s.heap H' h' := by
  have hid := hid_grow S hk
  have fp : ∀ b, Fp H h₁ b → Fp H s.heap b := fun b f => by
    rcases f with f | f | f
    · exact .inl f
    · exact .inr (.inl f)
    · exact .inr (.inr (hid _ f))
  have al : ∀ b, h₁.get? b = none → s.heap.get? b = none := fun b e => by
    cases q : s.heap.get? b with
    | none => rfl
    | some o => rw [hk _ _ q] at e; cases e
  exact ⟨fun b o e n => x.keep b o (hk _ _ e) (fun f => n (fp _ f)) (fun q => by rw [q, hL] at e; cases e) (fun y q => by rw [hC y b q] at e; cases e),
    fun b e => al _ (x.alive b e), fun b f => (x.fresh b f).imp (fp b) (al b), fun b o e => (x.dom b o e).imp id (al b)⟩
structure FnOk (C : Cfg) (f : Nat) (fa : Addr) (fd : FuncData) (body : List Stmt) (l : Nat) (fn : Fn) : Prop where
  obj : ∃ oc od osl, C.K.lookup fa = some ⟨oc, od, .func fd, osl⟩
  addr : C.fnA.lookup f = some fa
  lv : C.tab.lv.lookup f = some l
  bd : fd.body = .stmts body
  gl : fd.globals = mainGlobals
  bl : fd.builtins = builtinsNs
  clo : fd.closure = []
  dfl : fd.defaults = .none
  code : codeIn C.K fd.code fd.qualname = true
  p0 : fd.params.posonlyargs = []
  p1 : fd.params.vararg = none
  p2 : fd.params.kwonlyargs = []
  p3 : fd.params.kwarg = none
  tr : trF C.tab l (fd.params.args.map (·.arg)) fd.scope body = some fn
theorem call_fn {f : Nat} {fa : Addr} {fd : FuncData} {body : List Stmt} {l : Nat} {fn : Fn} {vs : List V} {Q : PV} (O : C.Ok) (F : FnOk C f fa fd body l fn) (hlen : vs.length = fn.np)
    (hw : wpSs (phi C) fn.body (fn.start vs) H (fun fl _ H' => ∃ H'', H''.le H' ∧ Q fl.val H'')) : phi C f vs H Q := by
  intro A s pvs l' fa' hl' hfa hh hd hu S r
  rw [F.lv] at hl'; cases hl'
  rw [F.addr] at hfa; cases hfa
  refine absG fun Cg hCg => ?_
  obtain ⟨oc, od, osl, hK⟩ := F.obj
  have X := S.X O
  have T := O.T.keeps S.base
  have htr := F.tr
  refine hCg ?_; clear hCg
  unfold trF at htr
  split at htr
  case isFalse => cases htr
  rename_i hsh
  have Sh := fShape_ok hsh
  split at htr
  case h_2 => cases htr
  rename_i b hb
  cases htr
  have hown := own_nodup Sh.nodup
  have hlen : vs.length = (fd.params.args.map (·.arg)).length := hlen
  generalize hps : fd.params.args.map (·.arg) = params at *
  have hple : params.length ≤ (ownNames fd.scope.names).length := by
    have := congrArg List.length Sh.par
    rw [List.length_take] at this; (first | lia | omega)
  have hpn : params.Nodup := by rw [← Sh.par]; exact List.Nodup.sublist (List.take_sublist _ _) hown
  have hvl : pvs.length = params.length := by rw [r.length]; exact hlen
  have hbind := bind_ok (fd := fd) (vals := pvs) F.p0 F.p1 F.p2 F.p3 F.dfl (by rw [hps]; exact hpn) (by rw [hps]; exact hvl)
  rw [hps] at hbind
  have hfst : (params.zip pvs).map (·.1) = params := List.map_fst_zip (by (first | lia | omega))
  have hcl : ∀ x, (x, NameKind.cell) ∈ fd.scope.names → ∃ a, (cellsFrom (s.heap.objs.size + 1) fd.scope.names []).lookup x = some a := fun x hx => by
    obtain ⟨a, ha⟩ := cellsFrom_has (n := s.heap.objs.size + 1) (acc := []) (.inl hx)
    exact lookup_some ha
  have hkind : ∀ x ∈ params.zip pvs, fd.scope.names.lookup x.1 = some .local ∨ (fd.scope.names.lookup x.1 = some .cell ∧ ((cellsFrom (s.heap.objs.size + 1) fd.scope.names []).lookup x.1).isSome = true) := by
    intro x hx
    have hx1 : x.1 ∈ params := by rw [← hfst]; exact List.mem_map_of_mem (f := (·.1)) hx
    have hx2 : x.1 ∈ ownNames fd.scope.names := by rw [← Sh.par] at hx1; exact List.mem_of_mem_take hx1
    rcases own_mem hx2 with q | q
    · exact .inl (lookup_of_nodup Sh.nodup q)
    · obtain ⟨a, ha⟩ := hcl _ q
      exact .inr ⟨lookup_of_nodup Sh.nodup q, by rw [ha]; rfl⟩
  refine codeAny_call_cells (fd := fd) (body := body) (by have : recursionLimit = 1000 := rfl; (first | lia | omega)) (X _ _ hK) rfl T.nolimit (codeRec_of X F.code) F.bd hbind F.clo hkind (fun s1 x => ?_) Sh.co Sh.gen Sh.kind
  generalize henv : callEnvC fd s.heap.objs.size fa = env at *
  have eL : env.locals = s.heap.objs.size := by rw [← henv]; rfl
  have eC : env.cells = cellsFrom (s.heap.objs.size + 1) fd.scope.names [] := by rw [← henv]; rfl
  have eS : env.scope = fd.scope := by rw [← henv]; rfl
  have eK : ∀ y, env.kindOf y = fd.scope.names.lookup y := fun y => by rw [← henv]; rfl
  refine absG fun Cg hCg => ?_
  obtain ⟨h₁, tk, es1, hk⟩ := x.done
  have hk : ∀ b o, s.heap.get? b = some o → s1.heap.get? b = some o := by rw [es1]; exact hk
  obtain ⟨S1, _⟩ := S.grow (s' := s1) hk (by rw [es1]) (by rw [es1])
  have zL : s.heap.get? env.locals = none := by rw [eL]; exact look_size _
  refine hCg ?_; clear hCg
  have zC : ∀ y a, env.cells.lookup y = some a → s.heap.get? a = none := fun y a e => by
    have := x.above y a (lookup_mem e)
    rw [eL] at this
    cases q : s.heap.get? a with
    | none => rfl
    | some o => exact absurd (Nat.lt_trans this (Heap.lt_size q)) (Nat.lt_irrefl _)
  have hid := hid_grow S hk
  have hnl : ∀ y i, (fCtx C.tab l fd.scope).ν.lookup y = some i ↔ (ownNames fd.scope.names)[i]? = some y := fun y i => zipIdx_lookup hown
  have hstart : ∀ (y : Str) (i : Nat) (ov : Option Value), (ownNames fd.scope.names)[i]? = some y → (∀ v, (y, v) ∈ params.zip pvs → ov = some v) → (y ∉ params → ov = none) → OptRep ov (((Fn.mk params.length (ownNames fd.scope.names).length b).start vs)[i]?.join) := by
    intro y i ov hy h1 h2
    have hlt : i < (ownNames fd.scope.names).length := by
      by_cases q : i < (ownNames fd.scope.names).length
      · exact q
      · rw [List.getElem?_eq_none (by (first | lia | omega))] at hy; cases hy
    unfold Fn.start
    by_cases q : i < params.length
    · have hpi : params[i]? = some y := by
        have e : params[i]? = ((ownNames fd.scope.names).take params.length)[i]? := by rw [Sh.par]
        rw [e, List.getElem?_take_of_lt q]; exact hy
      have hvi : vs[i]? = some (vs[i]'(by (first | lia | omega))) := List.getElem?_eq_getElem _
      refine absG fun Cg hCg => ?_
      obtain ⟨pv, e1, e2⟩ := r.get hvi
      refine hCg ?_; clear hCg
      have hmem : (y, pv) ∈ params.zip pvs := by
        rw [List.mem_iff_getElem?]
        exact ⟨i, by rw [List.getElem?_zip_eq_some]; exact ⟨hpi, e1⟩⟩
      rw [h1 pv hmem, List.getElem?_append_left (by rw [List.length_map]; (first | lia | omega)), List.getElem?_map, hvi]
      exact e2
    · have hnp : y ∉ params := fun hm => by
        rw [← Sh.par] at hm
        obtain ⟨j, hj⟩ := List.mem_iff_getElem?.mp hm
        rw [List.getElem?_take] at hj
        split at hj
        · rename_i hjl
          have := (List.getElem?_inj hlt hown).mp (hy.trans hj.symm)
          (first | lia | omega)
        · cases hj
      rw [h2 hnp, List.getElem?_append_right (by rw [List.length_map]; (first | lia | omega)), List.getElem?_replicate]
      split <;> trivial
  have a : At C (fCtx C.tab l fd.scope) env (A.deeper env) ((Fn.mk params.length (ownNames fd.scope.names).length b).start vs) H s1 := by
    refine ⟨⟨?_, ?_, ?_, fun y e => (eK y).trans e, fun y e => (eK y).trans e, fun y e => (eK y).trans e, fun y e => .inl ((eK y).trans e), fun y z i e1 e2 => ?_, fun y i e => ?_
      ⟩, ⟨hh, ?_, ?_⟩, S1,
      ⟨?_, ⟨_, x.toInCall.ns, fun y i e k => ?_⟩, fun y i e k => ?_, ?_, fun y d e => ?_, fun y z d e1 e2 => ?_⟩⟩
    · rw [← henv]; exact F.gl
    · rw [← henv]; exact F.bl
    · rw [eS]; exact Sh.kind
    · exact Option.some.inj (((hnl y i).mp e1).symm.trans ((hnl z i).mp e2))
    · have := (hnl y i).mp e
      show i < (ownNames fd.scope.names).length
      by_cases q : i < (ownNames fd.scope.names).length
      · exact q
      · rw [List.getElem?_eq_none (by (first | lia | omega))] at this; cases this
    · show (A.deeper env).depth + 4 * l ≤ 900
      rw [depth_deeper]; (first | lia | omega)
    · show (A.deeper env).units + 20 * l ≤ 9000
      rw [units_deeper]; (first | lia | omega)
    · unfold Fn.start
      rw [List.length_append, List.length_map, List.length_replicate]
      show _ = (ownNames fd.scope.names).length
      show vs.length + ((ownNames fd.scope.names).length - params.length) = _
      (first | lia | omega)
    · have hk' : env.kindOf y = some .local := (eK y).trans k
      exact hstart y i _ ((hnl y i).mp e) (fun v hm => bindL_at hk' (by rw [hfst]; exact hpn) hm) fun hn => bindL_out (by rw [hfst]; exact hn)
    · have hkc : fd.scope.names.lookup y = some .cell := by
        rcases k with k | k
        · exact k
        · exact absurd rfl (Sh.free _ (lookup_mem k))
      obtain ⟨ca, hca⟩ := hcl y (lookup_mem hkc)
      have hca' : env.cells.lookup y = some ca := by rw [eC]; exact hca
      have hk' : env.kindOf y ≠ some .local := by rw [eK, hkc]; decide
      exact ⟨ca, _, hca', x.cell y ca hca', hstart y i _ ((hnl y i).mp e) (fun v hm => bindC_at hk' (by rw [hfst]; exact hpn) hm) fun hn => bindC_out (by rw [hfst]; exact hn)⟩
    · have ap := (Apart.fresh S zL).hidMono hid
      exact ⟨ap.at_, ap.hid, ap.base⟩
    · have ap := (Apart.fresh S (zC y d e)).hidMono hid
      refine absG fun Cg hCg => ?_
      obtain ⟨o, ho, _⟩ := x.cell y d e
      refine hCg ?_; clear hCg
      exact ⟨ap.at_, ap.hid, ap.base, fun q => absurd (x.above y d (lookup_mem e)) (by rw [q]; exact Nat.lt_irrefl _), o, ho⟩
    · exact name_of_addr x.apart (lookup_mem e1) (lookup_mem e2)
  have hb' : SndSs C (phi C) (fCtx C.tab l fd.scope) body b := execs_ok (fun st ms h => trS_ok O deep _ st ms rfl h) hb
  refine wpAny_mono (hb' a hw) (fun fl s2 z => ?_) fun _ _ f => f.elim
  refine absG fun Cg hCg => ?_
  obtain ⟨mfl, m2, H2, rf, S2, N2, x2, H3, l3, q⟩ := z
  have xx := (Ext.ofCall S hk x2 zL zC).forget l3
  refine hCg ?_; clear hCg
  refine ⟨_, rfl, mfl.val, H3, ?_, S2.forget l3, xx, q⟩
  cases fl <;> cases mfl <;> first | exact rf.elim | exact trivial | exact rf
end ML
namespace ML
open PySem PySem.W PySem.Calls PyProof.Rows PySem.SeqAt
noncomputable def isNoneV : Value → Bool
  | .none => true
  | _ => false
noncomputable def fdOk (K : Frag) (fd : FuncData) : Bool :=
  fd.globals == mainGlobals && fd.builtins == builtinsNs && fd.closure.isEmpty && isNoneV fd.defaults && codeIn K fd.code fd.qualname && fd.params.posonlyargs.isEmpty && fd.params.vararg.isNone && fd.params.kwonlyargs.isEmpty && fd.params.kwarg.isNone
noncomputable def fdGet (K : Frag) (tab : Tab) (l : Nat) (fd : FuncData) : Option Fn := match fd.body with
  | .stmts body => if fdOk K fd then trF tab l (fd.params.args.map (·.arg)) fd.scope body else none
  | _ => none
noncomputable def objGet (K : Frag) (tab : Tab) (l : Nat) : Option Obj → Option Fn
  | some ⟨_, _, .func fd, _⟩ => fdGet K tab l fd
  | _ => none
noncomputable def fnGet (K : Frag) (tab : Tab) (fnA : List (Nat × Addr)) (f : Nat) : Option Fn :=
  match fnA.lookup f with
  | none => none
  | some fa => match tab.lv.lookup f with
    | some l => objGet K tab l (K.lookup fa)
    | none => none
theorem fnGet_ok {C : Cfg} {f : Nat} {fn : Fn} (h : fnGet C.K C.tab C.fnA f = some fn) : ∃ fa fd body l, FnOk C f fa fd body l fn := by
  unfold fnGet at h
  split at h
  · cases h
  rename_i fa hfa
  split at h
  case h_2 => cases h
  rename_i l hl
  unfold objGet at h
  split at h
  case h_2 => cases h
  rename_i oc od fd osl hK
  unfold fdGet at h
  split at h
  case h_2 => cases h
  rename_i body hb
  split at h
  case isFalse => cases h
  rename_i hc
  unfold fdOk at hc
  simp only [Bool.and_eq_true] at hc
  obtain ⟨⟨⟨⟨⟨⟨⟨⟨c1, c2⟩, c3⟩, c4⟩, c5⟩, c6⟩, c7⟩, c8⟩, c9⟩ := hc
  refine ⟨fa, fd, body, l, ⟨oc, od, osl, hK⟩, hfa, hl, hb, eq_of_beq c1, eq_of_beq c2, List.isEmpty_iff.mp c3, ?_, c5, List.isEmpty_iff.mp c6, Option.isNone_iff_eq_none.mp c7, List.isEmpty_iff.mp c8, Option.isNone_iff_eq_none.mp c9, h
    ⟩
  cases hq : fd.defaults <;> first | rfl | (rw [hq] at c4; cases c4)
noncomputable def sysOf {C : Cfg} (O : C.Ok) : Sys (fnGet C.K C.tab C.fnA) where
  Φ := phi C
  call h hl hw := let ⟨_, _, _, _, F⟩ := fnGet_ok h; call_fn O F hl hw
noncomputable def refOf : Option (Option Value) → Option Addr
  | some (some (.ref a)) => some a
  | _ => none
noncomputable def mkCls (K : Frag) (tab : Tab) : List (Nat × Addr) := tab.cls.filterMap fun p => (refOf (nsIn K mainGlobals p.1)).map (p.2, ·)
noncomputable def mkFns (K : Frag) (tab : Tab) (clsA : List (Nat × Addr)) : List (Nat × Addr) :=
  (tab.fns.filterMap fun p => (refOf (nsIn K mainGlobals p.1)).map (p.2, ·)) ++
  (tab.mts.filterMap fun p => (clsA.lookup (methCls p.2)).bind fun Ca => (refOf (findIn K (.ref Ca) p.1)).map (p.2, ·)) ++
  (clsA.filterMap fun p => (refOf (findIn K (.ref p.2) "__init__")).map (p.1, ·))
noncomputable def clsB (K : Frag) (Ca : Addr) : Bool :=
  findIn K (.ref Ca) "__getattribute__" == some (some (.builtin "object.__getattribute__")) && findIn K (.ref Ca) "__getattr__" == some none && findIn K (.ref Ca) "__setattr__" == some (some (.builtin "object.__setattr__")) &&
  (clsIn K Ca).any (·.hasDict) && coreAts.all (fun p => findIn K (.ref Ca) p.1 == some none) && plainOver K Ca && makesIn K Ca
noncomputable def cfgB (K : Frag) (tab : Tab) (fnA clsA : List (Nat × Addr)) : Bool :=
  bltNames.all (fun x => nsIn K mainGlobals x == some none) &&
  (tab.fns.lookup ("__debug__" : Str)).isNone && (tab.cls.lookup ("__debug__" : Str)).isNone &&
  tab.cls.all (fun p => (clsA.lookup p.2).isSome) &&
  clsA.all (fun p => clsB K p.2) &&
  fnA.all (fun p => fnIn K p.2) &&
  tab.fns.all (fun p => match fnA.lookup p.2 with | some fa => nsIn K mainGlobals p.1 == some (some (.ref fa)) | none => true) &&
  tab.mts.all (fun p => match fnA.lookup p.2, clsA.lookup (methCls p.2) with
    | some fa, some Ca => findIn K (.ref Ca) p.1 == some (some (.ref fa)) && typeIn K (.ref fa) == some (.type "function") && (coreAts.lookup p.1).isNone
    | _, _ => true) &&
  tab.cls.all (fun p => match clsA.lookup p.2 with | some Ca => nsIn K mainGlobals p.1 == some (some (.ref Ca)) | none => true) &&
  clsA.all (fun p => match fnA.lookup p.1 with | some fa => findIn K (.ref p.2) "__init__" == some (some (.ref fa)) && typeIn K (.ref fa) == some (.type "function") | none => true) &&
  tab.lv.all (fun p => (fnA.lookup p.1).isSome)
theorem lookupN_mem {α : Type} : ∀ {l : List (Nat × α)} {x : Nat} {a : α}, l.lookup x = some a → (x, a) ∈ l
  | (y, b) :: r, x, a, h => by
    simp only [List.lookup] at h
    split at h
    · rename_i q; cases h; rw [beq_iff_eq.mp q]; exact .head _
    · exact .tail _ (lookupN_mem h)
structure Base (C : Cfg) : Prop where
  X : C.K.In C.h₀
  T : TopRead C.p C.loose C.mg C.mb C.h₀
  ats : C.tab.ats = coreAts
  sts : C.tab.sts = coreStrs
theorem cfg_ok {C : Cfg} (B : Base C) (h : cfgB C.K C.tab C.fnA C.clsA = true) : C.Ok := by
  unfold cfgB at h
  simp only [Bool.and_eq_true, List.all_eq_true] at h
  obtain ⟨⟨⟨⟨⟨⟨⟨⟨⟨⟨b1, b2⟩, b3⟩, b4⟩, b5⟩, b6⟩, b7⟩, b8⟩, b9⟩, b10⟩, b11⟩ := h
  refine ⟨fun x hx => eq_of_beq (b1 x hx), ⟨Option.isNone_iff_eq_none.mp b2, Option.isNone_iff_eq_none.mp b3⟩, B.ats, fun x ci e => Option.isSome_iff_exists.mp (b4 _ (lookup_mem e)), B.sts, B.X, B.T, fun ci Ca e => ?_,
    fun f fa e => b6 _ (lookupN_mem e), fun x f fa e1 e2 => ?_, fun x f fa Ca e1 e2 e3 => ?_, fun x ci Ca e1 e2 => ?_, fun ci Ca fa e1 e2 => ?_, fun f l e => Option.isSome_iff_exists.mp (b11 _ (lookupN_mem e))
    ⟩
  · have := b5 _ (lookupN_mem e)
    unfold clsB at this
    simp only [Bool.and_eq_true, List.all_eq_true] at this
    obtain ⟨⟨⟨⟨⟨⟨c1, c2⟩, c3⟩, c4⟩, c5⟩, c6⟩, c7⟩ := this
    exact ⟨eq_of_beq c1, eq_of_beq c2, eq_of_beq c3, c4, fun i x hx => eq_of_beq (c5 _ hx.mem), c6, c7⟩
  · have := b7 _ (lookup_mem e1)
    dsimp only at this
    rw [e2] at this
    exact eq_of_beq this
  · have := b8 _ (lookup_mem e1)
    dsimp only at this
    rw [e2, e3] at this
    simp only [Bool.and_eq_true] at this
    exact ⟨eq_of_beq this.1.1, eq_of_beq this.1.2, Option.isNone_iff_eq_none.mp this.2⟩
  · have := b9 _ (lookup_mem e1)
    dsimp only at this
    rw [e2] at this
    exact eq_of_beq this
  · have := b10 _ (lookupN_mem e1)
    dsimp only at this
    rw [e2] at this
    simp only [Bool.and_eq_true] at this
    exact ⟨eq_of_beq this.1, eq_of_beq this.2⟩
noncomputable def rowTab (K : Frag) (helpers : List (Str × Nat × Nat)) : Tab :=
  let t := mkTab helpers
  let A := mkFns K t (mkCls K t)
  { t with cls := t.cls.filter (fun p => (refOf (nsIn K mainGlobals p.1)).isSome), lv := t.lv.filter fun p => (A.lookup p.1).isSome }
end ML
namespace ML
open PySem PySem.W PySem.Calls PyProof.Rows PySem.SeqAt
noncomputable def H0 (a : Nat) (ns : List Int) : Heap := fun b => if b = a then some (.ro (ns.map V.int)) else none
theorem ints_rep {vs : List Value} {ns : List Int} (h : IntsAre vs ns) : All2 RepV vs (ns.map V.int) := by
  induction h with
  | nil => exact .nil
  | cons n t _ ih => exact .cons rfl ih
theorem st0 {C : Cfg} {s : Shared} {a : Addr} {vs : List Value} {ns : List Int} (hh : C.h₀ = s.heap) (ho : C.os = s.os) (hg : s.gens = #[]) (hl : s.heap.IsList a vs.toArray) (hi : IntsAre vs ns) (hn : ns.length ≤ 63) : StH C (H0 a ns) s := by
  have cs : ∀ b o, H0 a ns b = some o → b = a ∧ o = .ro (ns.map V.int) := fun b o e => by
    unfold H0 at e
    split at e
    · rename_i q; cases e; exact ⟨q, rfl⟩
    · cases e
  have r := ints_rep hi
  have nh : ∀ b, ¬ Hid (H0 a ns) s.heap b := fun b ⟨d, c, fs, o, e, _⟩ => by cases (cs _ _ e).2
  refine ⟨fun b o e => by rw [← hh]; exact e, fun b o e => ?_, fun b f => ?_, fun b x => absurd x (nh b), fun b _ c fs _ _ _ _ _ e => (by cases (cs _ _ e).2), hg, ho.symm⟩
  · obtain ⟨rfl, rfl⟩ := cs _ _ e
    exact ⟨vs, hl, r, by rw [r.length, List.length_map]; (first | lia | omega)⟩
  · rcases f with ⟨x, f⟩ | ⟨x, f⟩ | f
    · cases (cs _ _ f).2
    · cases (cs _ _ f).2
    · exact absurd f (nh b)
theorem row_start {C : Cfg} {A : Around} {s : Shared} {a fa : Addr} {vs : List Value} {ns : List Int} {f l : Nat} (O : C.Ok) (hh : C.h₀ = s.heap) (ho : C.os = s.os) (hg : s.gens = #[]) (hl : s.heap.IsList a vs.toArray) (hi : IntsAre vs ns) (hn : ns.length ≤ 63)
    (hf : C.fnA.lookup f = some fa) (hlv : C.tab.lv.lookup f = some l) (ha : A.handled = none) (hd : A.depth + 4 * l + 3 ≤ 900) (hu : A.units + 20 * l + 10 ≤ 9000)
    (hlaw : (sysOf O).Φ f [.ref a] (H0 a ns) (fun v _ => v = .bool true)) :
    codeAny C.M A (.call (.ref fa) ⟨[.ref a], []⟩) (fun r s' => r = .ok (.ret (.bool true)) ∧ (∀ b o, s.heap.get? b = some o → s'.heap.get? b = some o) ∧ s'.os = s.os ∧ s'.gens = #[]) s := by
  have S := st0 hh ho hg hl hi hn
  refine codeAny_mono (hlaw A s [.ref a] l fa hlv hf ha hd hu S (.cons rfl .nil)) fun r s' z => ?_
  obtain ⟨v, rfl, mv, H', rv, S', x', rfl⟩ := z
  cases rv.bool
  refine ⟨rfl, fun b o e => x'.keep b o e fun f => ?_, S'.os.trans ho, S'.gens⟩
  have := S.own b f
  rw [hh, e] at this; cases this
theorem row_end {prog : Program} {w : World} {K : Frag} {p : Program} {loose : List Str} {mg mb : Str → Option Value} {s : Shared} {a fa : Addr} {vs : List Value} {ns : List Int} {tab : Tab} {fnA clsA : List (Nat × Addr)} {f l : Nat}
    (KX : K.In s.heap) (T : TopRead p loose mg mb s.heap) (hmg : mg "law" = some (.ref fa)) (hg : s.gens = #[]) (hl : s.heap.IsList a vs.toArray) (hi : IntsAre vs ns) (hn : ¬ ((63 : Nat) : Int) < (ns.length : Nat))
    (ha : tab.ats = coreAts) (hs : tab.sts = coreStrs) (hchk : cfgB K tab fnA clsA = true) (hat : nsIn K mainGlobals "law" = some ((fnA.lookup f).map Value.ref)) (hlv : tab.lv.lookup f = some l) (hlt : l ≤ 20)
    (hlaw : ∀ S : Sys (fnGet K tab fnA), S.Φ f [.ref a] (H0 a ns) (fun v _ => v = .bool true)) :
    codeAny (model prog w) callerA (.call (.ref fa) ⟨[.ref a], []⟩) (fun r s' => r = .ok (.ret (.bool true)) ∧ (∀ b o, s.heap.get? b = some o → s'.heap.get? b = some o) ∧ s'.os = s.os ∧ s'.gens = #[]) s := by
  let C : Cfg := ⟨prog, w, K, s.heap, p, loose, mg, mb, s.os, tab, fnA, clsA⟩
  have O : C.Ok := cfg_ok ⟨KX, T, ha, hs⟩ hchk
  have hfa : fnA.lookup f = some fa := by
    cases q : fnA.lookup f with
    | none =>
      rw [q] at hat
      have := mg_none_of KX T.g hat
      rw [hmg] at this; cases this
    | some b =>
      rw [q] at hat
      have := mg_of KX T.g (v := .ref b) hat
      rw [hmg] at this; cases this; rfl
  exact row_start (C := C) O rfl rfl hg hl hi (by (first | lia | omega)) hfa hlv rfl (by show 1 + claimMargin + 4 * l + 3 ≤ 900; have : claimMargin = 300 := rfl; (first | lia | omega)) (by show 4 + 20 * l + 10 ≤ 9000; (first | lia | omega)) (hlaw (sysOf O))
end ML
namespace ML
open PySem PySem.W PyProof.Rows
noncomputable abbrev boot0 (w : World) (os : OsState) : Shared := ⟨boot_heap w.params, Array.mk [], boot_drawn, boot_toks, os⟩
noncomputable def osOf (p : Program) (N : Nat) (w : World) : OsState := ((fencedOpening treeTable p w N).map (·.os)).getD default
noncomputable def stAt (p : Program) (N : Nat) (w : World) : Option Shared := topFrom treeTable p w N (boot0 w (osOf p N w))
noncomputable def fragFor (h : PySem.Heap) (as : List Addr) : Frag := as.filterMap fun a => (h.get? a).map fun o => (a, o)
noncomputable def fragAt (h : PySem.Heap) : Frag := fragFor h (List.range h.objs.size)
theorem fragFor_in {h : PySem.Heap} : ∀ {as : List Addr}, (fragFor h as).In h
  | [], a, o, e => by cases e
  | b :: r, a, o, e => by
    unfold fragFor at e
    rw [List.filterMap_cons] at e
    cases q : h.get? b with
    | none => rw [q] at e; exact fragFor_in (as := r) a o e
    | some o' =>
      rw [q] at e
      replace e : List.lookup a ((b, o') :: fragFor h r) = some o := e
      rw [List.lookup_cons] at e
      split at e
      · rename_i q'
        have : a = b := by simpa using q'
        subst this
        rw [q]; exact e
      · exact fragFor_in (as := r) a o e
theorem frag_in {h : PySem.Heap} : (fragAt h).In h := fragFor_in
noncomputable def KAt (p : Program) (N : Nat) (w : World) : Frag := match stAt p N w with
  | some s => fragAt s.heap
  | none => []
theorem bootNs (P : Params) : (boot_heap P).isNs mainGlobals = true := by kernel_rfl
theorem run_of {p q : Program} {loose : List Str} {Xt : Shared → Bool} {N : Nat} {α : Type} {F : Frag → α} {G : α} {w : World} {os : OsState}
    (h : (topRun treeTable p w (boot_heap w.params).objs.size ((boot_heap w.params).nsMap mainGlobals "__annotations__") N (boot0 w os) (topStub p)).map (fun s =>
      ((staticsOk (importedModules p.main.body) (boot_heap w.params) s.heap && namesBound p s.heap && gensDone s && laidKept (boot_heap w.params) s.heap), openSeen q loose (importedModules p.main.body) Xt true s, F (fragAt s.heap))) = some (true, openGood q loose, G)) :
    ∃ s, topFrom treeTable p w N (boot0 w os) = some s ∧ openSeen q loose (importedModules p.main.body) Xt true s = openGood q loose ∧ F (fragAt s.heap) = G := by
  obtain ⟨s, h1, h2⟩ := Option.map_eq_some_iff.mp h
  obtain ⟨a, h2⟩ := Prod.mk.inj h2
  obtain ⟨b, c⟩ := Prod.mk.inj h2
  refine ⟨s, ?_, b, c⟩
  unfold topFrom
  have e : ((boot0 w os).heap.isNs mainGlobals && (boot0 w os).gens.size == 0) = true := by
    rw [show (boot0 w os).heap.isNs mainGlobals = true from bootNs w.params]; rfl
  rw [e]
  show (topRun treeTable p w (boot_heap w.params).objs.size ((boot_heap w.params).nsMap mainGlobals "__annotations__") N (boot0 w os) (topStub p)).bind _ = _
  rw [h1]
  show (match staticsOk (importedModules p.main.body) (boot_heap w.params) s.heap && namesBound p s.heap && gensDone s && laidKept (boot_heap w.params) s.heap with | true => some s | false => none) = some s
  rw [a]
theorem left_whole {p q : Program} {loose : List Str} {Xt : Shared → Bool} {N : Nat} (e : opening p = plainProg p.main.scope.names) (hN : Nat.ble 600 N = true) (f : ∀ s, fenceModules? p s = some s)
    (run : ∀ w os, ∃ s, topFrom treeTable p w N (boot0 w os) = some s ∧ openSeen q loose (importedModules p.main.body) Xt true s = openGood q loose) :
    LeftO p q loose Xt (fun s => fragAt s.heap) (fun w => KAt p N w) N := fun w => by
  obtain ⟨s₀, h1, h2⟩ := Option.map_eq_some_iff.mp (boot_open e hN f w)
  have h3 : s₀ = boot0 w (osOf p N w) := by
    have : osOf p N w = s₀.os := by unfold osOf; rw [h1]; rfl
    rw [this]
    obtain ⟨a, b, c, d, o⟩ := s₀
    simp only [Prod.mk.injEq] at h2
    obtain ⟨rfl, rfl, rfl, rfl⟩ := h2
    rfl
  obtain ⟨s, h4, h5⟩ := run w (osOf p N w)
  unfold openEnds
  rw [h1, h3]
  show (topFrom treeTable p w N (boot0 w (osOf p N w))).map _ = _
  have hs : stAt p N w = some s := h4
  rw [h4]
  exact congrArg some (Prod.ext h5 (by show fragAt s.heap = KAt p N w; unfold KAt; rw [hs]))
noncomputable def lawOk (K : Frag) (fnA : List (Nat × Addr)) (f : Nat) : Bool := match nsIn K mainGlobals "law", fnA.lookup f with
  | some (some (.ref a)), some b => a == b
  | _, _ => false
theorem law_of {K : Frag} {fnA : List (Nat × Addr)} {f : Nat} (h : lawOk K fnA f = true) : nsIn K mainGlobals "law" = some ((fnA.lookup f).map Value.ref) := by
  unfold lawOk at h
  split at h
  · rename_i a b e1 e2
    rw [e1, e2, beq_iff_eq.mp h]; rfl
  · cases h
theorem pick {α β : Type} {f : α → β} {l : List α} {l' : List β} (z : l.map f = l') {i : Nat} {x : α} {y : β} (h1 : l[i]? = some x) (h2 : l'[i]? = some y) : f x = y := by
  have h := congrArg (fun l => l[i]?) z
  rw [List.getElem?_map, h1, h2] at h
  exact Option.some.inj h
noncomputable def looks (helpers : List (Str × Nat × Nat)) (f : Nat) (ids : List Nat) (K : Frag) : Bool × Bool × Option Nat × List (Option Fn) :=
  (cfgB K (rowTab K helpers) (mkFns K (rowTab K helpers) (mkCls K (rowTab K helpers))) (mkCls K (rowTab K helpers)), lawOk K (mkFns K (rowTab K helpers) (mkCls K (rowTab K helpers))) f, (rowTab K helpers).lv.lookup f,
    ids.map (fnGet K (rowTab K helpers) (mkFns K (rowTab K helpers) (mkCls K (rowTab K helpers)))))
theorem looks_of {p : Program} {N : Nat} {w : World} {helpers : List (Str × Nat × Nat)} {f : Nat} {ids : List Nat} {G : Bool × Bool × Option Nat × List (Option Fn)} (h : ∃ s, topFrom treeTable p w N (boot0 w (osOf p N w)) = some s ∧ looks helpers f ids (fragAt s.heap) = G) : looks helpers f ids (KAt p N w) = G := by
  obtain ⟨s, h1, h2⟩ := h
  have hs : stAt p N w = some s := h1
  unfold KAt
  rw [hs]; exact h2
end ML
namespace ML
theorem drop_cons {α : Type} {xs : List α} {k : Nat} {x : α} (h : xs[k]? = some x) : xs.drop k = x :: xs.drop (k + 1) := by
  have hlt : k < xs.length := by
    by_cases q : k < xs.length
    · exact q
    · rw [List.getElem?_eq_none (by (first | lia | omega))] at h; cases h
  rw [List.drop_eq_getElem_cons hlt]
  rw [List.getElem?_eq_getElem hlt] at h
  rw [Option.some.inj h]
theorem drop_head {α : Type} {xs ys : List α} {k : Nat} {y : α} (h : xs.drop k = y :: ys) : xs[k]? = some y ∧ xs.drop (k + 1) = ys ∧ k + 1 ≤ xs.length := by
  have e : xs[k]? = some y := by
    have := congrArg (·[0]?) h
    rwa [List.getElem?_drop] at this
  refine ⟨e, ?_, (List.getElem?_eq_some_iff.mp e).1⟩
  rw [List.drop_add_one_eq_tail_drop, h]; rfl
theorem for_inv {body : Loc → Heap → PS → Prop} {tgt : List Nat} {ok : Heap → Prop} {xs : List V} {m : Loc} {H : Heap} {Q : PS} (I : Nat → Loc → Heap → Prop) (h0 : I 0 m H)
    (step : ∀ k x m H (K : Loc → Heap → Prop), xs[k]? = some x → I k m H → (∀ m' H', I (k + 1) m' H' → K m' H') → ok H ∧ bindTo tgt x H m fun m => body m H (turnW K Q))
    (fin : ∀ m H, I xs.length m H → ok H ∧ Q .next m H) : forW body tgt ok xs m H Q := by
  have key : ∀ ys k m H, xs.drop k = ys → k ≤ xs.length → I k m H → forW body tgt ok ys m H Q := by
    intro ys
    induction ys with
    | nil =>
      intro k m H e hk hI
      exact fin m H (Nat.le_antisymm hk (List.drop_eq_nil_iff.mp e) ▸ hI)
    | cons y ys ih =>
      intro k m H e hk hI
      obtain ⟨h1, h2, h3⟩ := drop_head e
      exact step k y m H _ h1 hI fun m' H' hI' => ih (k + 1) m' H' h2 h3 hI'
  exact key xs 0 m H rfl (Nat.zero_le _) h0
theorem comp_inv {elt : Loc → Heap → PV → Prop} {cond : Loc → Heap → (Bool → Heap → Prop) → Prop} {n : Nat} {ok : Heap → Prop} {m : Loc} {xs : List V} {H : Heap} {Q : PV} (I : Nat → List V → Heap → Prop) (h0 : I 0 [] H)
    (step : ∀ k x acc H (K : List V → Heap → Prop), xs[k]? = some x → I k acc H → (∀ acc' H', I (k + 1) acc' H' → K acc' H') → ok H ∧ acc.length ≤ lim ∧ bindNew n x H m fun m' => cond m' H fun b H => if b then elt m' H fun v H => ∃ H', H'.le H ∧ K (acc ++ [v]) H' else K acc H)
    (fin : ∀ acc H, I xs.length acc H → ok H ∧ acc.length ≤ lim ∧ allocW (.list acc) H Q) : compW elt cond n ok m xs [] H Q := by
  have key : ∀ ys k acc H, xs.drop k = ys → k ≤ xs.length → I k acc H → compW elt cond n ok m ys acc H Q := by
    intro ys
    induction ys with
    | nil =>
      intro k acc H e hk hI
      exact fin acc H (Nat.le_antisymm hk (List.drop_eq_nil_iff.mp e) ▸ hI)
    | cons y ys ih =>
      intro k acc H e hk hI
      obtain ⟨h1, h2, h3⟩ := drop_head e
      exact step k y acc H (fun acc H => compW elt cond n ok m ys acc H Q) h1 hI fun acc' H' hI' => ih (k + 1) acc' H' h2 h3 hI'
  exact key xs 0 [] H rfl (Nat.zero_le _) h0
theorem rngList_get {a n : Int} {k : Nat} {x : V} (h : (rngList a n)[k]? = some x) : x = .int (a + k) ∧ (k : Int) < n - a := by
  unfold rngList at h
  rw [List.getElem?_map] at h
  obtain ⟨j, e1, e2⟩ := Option.map_eq_some_iff.mp h
  have hlt : k < (n - a).toNat := by
    by_cases q : k < (n - a).toNat
    · exact q
    · rw [List.getElem?_eq_none (by simp; (first | lia | omega))] at e1; cases e1
  rw [List.getElem?_range hlt] at e1
  cases e1
  exact ⟨e2.symm, by (first | lia | omega)⟩
theorem rngList_len {a n : Int} : (rngList a n).length = (n - a).toNat := by simp [rngList]
theorem turn_next {K : Loc → Heap → Prop} {Q : PS} {m : Loc} {H : Heap} (k : K m H) : turnW K Q .next m H := ⟨H, fun _ _ e => e, k⟩
theorem mid_of {i : Int} (h1 : -1000000 ≤ i) (h2 : i ≤ 1000000) : mid i := by unfold mid; (first | lia | omega)
theorem end_ret {Q : PV} {fl : Flow} {v : V} {H : Heap} (hv : fl.val = v) (k : Q v H) : ∃ H'', H''.le H ∧ Q fl.val H'' := ⟨H, fun _ _ e => e, hv ▸ k⟩
theorem upd_le_of {H H' : Heap} {b : Nat} {o : O} (h : H.le H') (hb : H' b = some o) : (H.upd b o).le H' := fun p x hp => by
  by_cases e : p = b
  · subst e; rw [upd_self] at hp; cases hp; exact hb
  · rw [upd_ne e] at hp; exact h _ _ hp
theorem end_new {Q : PV} {H H' : Heap} {b : Nat} {o : O} {fl : Flow} (hv : fl.val = .ref b) (h : H.le H') (hb : H' b = some o) (hn : H b = none) (k : ∀ b, H b = none → Q (.ref b) (H.upd b o)) : ∃ H'', H''.le H' ∧ Q fl.val H'' :=
  ⟨H.upd b o, upd_le_of h hb, by rw [hv]; exact k b hn⟩
theorem end_old {Q : PV} {H H' : Heap} {fl : Flow} {v : V} (hv : fl.val = v) (h : H.le H') (k : Q v H) : ∃ H'', H''.le H' ∧ Q fl.val H'' := ⟨H, h, hv ▸ k⟩
theorem upd_none_of {H : Heap} {a b : Nat} {o : O} (h : (H.upd a o) b = none) : H b = none ∧ b ≠ a := by
  by_cases e : b = a
  · subst e; rw [upd_self] at h; cases h
  · rw [upd_ne e] at h; exact ⟨h, e⟩
theorem fresh_le {H H' : Heap} {b : Nat} (l : H.le H') (h : H' b = none) : H b = none := by
  cases e : H b with
  | none => rfl
  | some o => rw [l _ _ e] at h; cases h
theorem v_ifT {c : Bool} {A B : Prop} (h : c = true) (k : A) : if c = true then A else B := by rw [if_pos h]; exact k
theorem v_ifF {c : Bool} {A B : Prop} (h : c = false) (k : B) : if c = true then A else B := by rw [if_neg (by rw [h]; decide)]; exact k
theorem v_neR {p q : Nat} {H : Heap} {da db : D} {Q : Bool → Prop} (h1 : Rd H depthMax (.ref p) da) (h2 : Rd H depthMax (.ref q) db) (k : ∀ r : Bool, (r = true ↔ da = db) → Q (!r)) : cmpW .ne (.ref p) (.ref q) H Q := .inl ⟨da, db, h1, h2, k⟩
theorem v_neRt {p q : Nat} {H : Heap} {d : D} {Q : Bool → Prop} (h1 : Rd H depthMax (.ref p) d) (h2 : Rd H depthMax (.ref q) d) (k : Q false) : cmpW .ne (.ref p) (.ref q) H Q := v_neR h1 h2 fun r e => by rw [e.mpr rfl]; exact k
theorem All2.map_self {α β γ : Type} {R : α → β → Prop} {f : γ → α} {g : γ → β} (h : ∀ x, R (f x) (g x)) : ∀ l : List γ, All2 R (l.map f) (l.map g)
  | [] => .nil
  | x :: r => .cons (h x) (All2.map_self h r)
theorem rd_int {H : Heap} {n : Nat} {i : Int} : Rd H n (.int i) (.int i) := by cases n with | zero => rfl | succ n => exact .inl rfl
theorem rd_list {H : Heap} {n p : Nat} {o : O} {xs : List V} {ds : List D} (h : H p = some o) (ho : o.lst? = some xs) (k : All2 (Rd H n) xs ds) : Rd H (n + 1) (.ref p) (.list ds) := .inr (.inl ⟨p, o, xs, ds, rfl, h, ho, rfl, k⟩)
theorem rd_tup {H : Heap} {n p : Nat} {xs : List V} {ds : List D} (h : H p = some (.tup xs)) (k : All2 (Rd H n) xs ds) : Rd H (n + 1) (.ref p) (.tup ds) := .inr (.inr ⟨p, xs, ds, rfl, h, rfl, k⟩)
theorem rd_ints {H : Heap} {n p : Nat} {o : O} {ns : List Int} (h : H p = some o) (ho : o.lst? = some (ns.map V.int)) : Rd H (n + 1) (.ref p) (.list (ns.map D.int)) := rd_list h ho (All2.map_self (fun _ => rd_int) ns)
end ML
namespace ML
section
variable {Φ : Orac} {m : Loc} {H : Heap} {Q : PS} {r : List S}
theorem n_assign {i e} (k : wpE Φ e m H fun v H => wpSs Φ r (m.set i (some v)) H Q) : wpSs Φ (.assign i e :: r) m H Q := k
theorem n_unpack {is e} (k : wpE Φ e m H fun v H => unpW is v H m fun m => wpSs Φ r m H Q) : wpSs Φ (.unpack is e :: r) m H Q := k
theorem n_setAttr {o i e} (k : wpE Φ e m H fun v H => wpE Φ o m H fun x H => setAttrW x i v H fun H => wpSs Φ r m H Q) : wpSs Φ (.setAttr o i e :: r) m H Q := k
theorem n_setIdx {o i e} (k : wpE Φ e m H fun v H => wpE Φ o m H fun x H => wpE Φ i m H fun y H => setIdxW x y v H fun H => wpSs Φ r m H Q) : wpSs Φ (.setIdx o i e :: r) m H Q := k
theorem n_del {o i} (k : wpE Φ o m H fun x H => wpE Φ i m H fun y H => delIdxW x y H fun H => wpSs Φ r m H Q) : wpSs Φ (.delIdx o i :: r) m H Q := k
theorem n_append {o e} (k : wpE Φ o m H fun x H => isLst H x ∧ wpE Φ e m H fun v H => appendW x v H fun H => wpSs Φ r m H Q) : wpSs Φ (.append o e :: r) m H Q := k
theorem n_expr {e} (k : wpE Φ e m H fun v H => dropW v (wpSs Φ r m H Q)) : wpSs Φ (.expr e :: r) m H Q := k
theorem n_ret {e} (k : wpE Φ e m H fun v H => Q (.ret v) m H) : wpSs Φ (.ret (some e) :: r) m H Q := k
theorem n_chk {c e} (k : wpT Φ c m H fun b H => if b then wpE Φ e m H (fun v H => Q (.ret v) m H) else wpSs Φ r m H Q) : wpSs Φ (.ite c [.ret (some e)] [] :: r) m H Q := k
theorem n_ite {c a b} (k : wpT Φ c m H fun x H => if x then wpSs Φ a m H (thenW (fun m H => wpSs Φ r m H Q) Q) else wpSs Φ b m H (thenW (fun m H => wpSs Φ r m H Q) Q)) : wpSs Φ (.ite c a b :: r) m H Q := k
theorem n_whl {c b} (k : whileW (wpT Φ c) (wpSs Φ b) m H (thenW (fun m H => wpSs Φ r m H Q) Q)) : wpSs Φ (.whl c b :: r) m H Q := k
theorem n_for {t src b} (k : wpSrc Φ src m H fun xs ok H => forW (wpSs Φ b) t ok xs m H (thenW (fun m H => wpSs Φ r m H Q) Q)) : wpSs Φ (.for1 t src b :: r) m H Q := k
theorem n_nil (k : Q .next m H) : wpSs Φ [] m H Q := k
theorem n_then {K : Loc → Heap → Prop} (k : K m H) : thenW K Q .next m H := k
end
theorem mid_nat {n : Nat} (h : n ≤ 1000000) : mid (n : Int) := by unfold mid; (first | lia | omega)
theorem v_idxN {H : Heap} {p k : Nat} {x : O} {xs : List V} {v : V} {Q : V → Prop} (h : H p = some x) (hs : x.seq? = some xs) (h1 : k ≤ 900000) (hv : xs[k]? = some v) (K : Q v) : idxW (.ref p) (.int k) H Q :=
  v_idx h hs (Int.natCast_nonneg _) (by show (k : Int) < ((1000000 : Nat) : Int); (first | lia | omega)) (by rw [Int.toNat_natCast]; exact hv) K
theorem lt_of_get {α : Type} {l : List α} {i : Nat} {x : α} (h : l[i]? = some x) : i < l.length := (List.getElem?_eq_some_iff.mp h).1
theorem v_sliceL {p x xs lo hi l h'} {H : Heap} {Q : PV} (h : H p = some x) (hs : x.lst? = some xs) (hl : part? lo = some l) (hh : part? hi = some h') (n1 : nonneg? l) (n2 : nonneg? h') (hz : xs.length ≤ lim)
    (k : ∀ a H', H.le H' → H a = none → H' a = some (.list (cut xs l h')) → Q (.ref a) H') : sliceW (.ref p) lo hi H Q := v_slice h hs hl hh n1 n2 hz fun a na => k a _ (Heap.le_upd na) na upd_self
theorem v_addLL {p q xs ys} {H : Heap} {Q : PV} (h1 : H p = some (.list xs)) (h2 : H q = some (.list ys)) (hl : xs.length + ys.length ≤ lim) (k : ∀ a H', H.le H' → H a = none → H' a = some (.list (xs ++ ys)) → Q (.ref a) H') :
    bopW .add (.ref p) (.ref q) H Q := v_addL h1 h2 hl fun a na => k a _ (Heap.le_upd na) na upd_self
end ML
open ML
set_option bootstrap.genMatcherCode true
local macro_rules | `(tactic| walk_at "look") => `(tactic| first | assumption | exact upd_self | (refine upd_fresh (by assumption) ?_; walk_at "look") | (refine (upd_ne (by walk_at "ne")).trans ?_; walk_at "look"))
local macro_rules | `(tactic| walk_at "ne") => `(tactic| first | assumption | exact Ne.symm (by assumption) | exact ne_of_look (by assumption) (by walk_at "look") | exact Ne.symm (ne_of_look (by assumption) (by walk_at "look")))
local macro_rules | `(tactic| walk_at "le") => `(tactic| first | exact Heap.le_refl _ | assumption | exact Heap.le_upd (by assumption) | (refine Heap.le_trans ?_ (Heap.le_upd (by assumption)); walk_at "le"))
local macro_rules | `(tactic| walk_at "side") => `(tactic| first | decide | assumption | (first | lia | omega))
local macro_rules | `(tactic| walk_at "z") => `(tactic| repeat (first | dsimp only [s_assign, s_unpack, s_setAttr, s_setIdx, s_delIdx, s_append, s_expr, s_ret0, s_ret, s_ite, s_whl, s_for, s_brk, s_pass, s_nil, s_cons, z_then, z_thenB, z_thenR] | walk_at "m0"))
local macro_rules | `(tactic| walk_at "m0") => `(tactic| dsimp only [w_var, w_lit, w_bop, w_neg, w_cmp, w_cmp2, w_and, w_or, w_not, w_call, w_meth, w_new, w_prim, w_attr, w_idx, w_slice, w_list, w_tup, w_comp, w_onone, w_osome, w_enil, w_econs, w_rng1, w_rng2, w_rng3, w_rngS, w_dict0, w_of, w_cnone, w_csome,
  t_not, t_and, t_or, t_cmp, t_cmp2, t_var, t_lit, t_call, t_meth, t_idx, t_prim, t_bop, z_var, z_addI, z_subI, z_negI, z_lt, z_le, z_gt, z_ge, z_eqI, z_neI, z_eqB, z_neB, z_eqS, z_neS, z_is, z_isnot, z_isNN, z_isBB, z_isRN, z_isIN, z_isBN, z_isSN, z_isFN, z_isNB, z_isRB, z_isIB, z_tN, z_tB, z_tI, z_abs, z_min, z_max, z_tyInt, z_tyBool, z_isBool, z_dropN, z_dropB, z_dropI, z_ifT, z_ifF, z_new1, z_to1,
  z_mapN, z_mapC, z_appN, z_appC, z_set0, z_setS, z_get0, z_getS, z_notT, z_notF, List.replicate, Nat.reduceSub, Fn.start])
local macro_rules | `(tactic| walk_at "m") => `(tactic| try walk_at "m0")
local macro_rules | `(tactic| walk_at "n") => `(tactic| ((first | refine n_assign ?_ | refine n_chk ?_ | refine n_ite ?_ | refine n_for ?_ | refine n_append ?_ | refine n_expr ?_ | refine n_ret ?_ | refine n_setAttr ?_ | refine n_del ?_ | refine n_whl ?_ | refine n_setIdx ?_ | refine n_unpack ?_ | (refine n_then ?_; walk_at "n") | (refine n_nil ?_; walk_at "n")); walk_at "m"))
set_option bootstrap.genMatcherCode false

namespace ML
theorem All2.mono {α β : Type} {R R' : α → β → Prop} (h : ∀ a b, R a b → R' a b) : ∀ {l : List α} {m : List β}, All2 R l m → All2 R' l m
  | _, _, .nil => .nil
  | _, _, .cons a r => .cons (h _ _ a) (r.mono h)
theorem All2.len {α β : Type} {R : α → β → Prop} {l : List α} {m : List β} (h : All2 R l m) : l.length = m.length := h.length
theorem All2.app {α β : Type} {R : α → β → Prop} {l l' : List α} {m m' : List β} (x : All2 R l m) (y : All2 R l' m') : All2 R (l ++ l') (m ++ m') := x.append y
theorem All2.filter {α β : Type} {R : α → β → Prop} {p : α → Bool} {q : β → Bool} (h : ∀ a b, R a b → p a = q b) : ∀ {l : List α} {m : List β}, All2 R l m → All2 R (l.filter p) (m.filter q)
  | _, _, .nil => .nil
  | a :: l, b :: m, .cons x r => by
    rw [List.filter_cons, List.filter_cons, h _ _ x]
    split
    · exact .cons x (r.filter h)
    · exact r.filter h
theorem All2.at {α β : Type} {R : α → β → Prop} {l : List α} {m : List β} {i : Nat} {b : β} (h : All2 R l m) (e : m[i]? = some b) : ∃ a, l[i]? = some a ∧ R a b := h.get e
theorem All2.at' {α β : Type} {R : α → β → Prop} {l : List α} {m : List β} {i : Nat} {a : α} (h : All2 R l m) (e : l[i]? = some a) : ∃ b, m[i]? = some b ∧ R a b := h.get' e
noncomputable def PairIs (H : Heap) (x : V) (kv : Int × Int) : Prop := ∃ r, x = .ref r ∧ H r = some (.tup [.int kv.1, .int kv.2])
noncomputable def kvOf (H : Heap) : V → Int × Int
  | .ref r => match H r with
    | some (.tup [.int k, .int v]) => (k, v)
    | _ => (0, 0)
  | _ => (0, 0)
theorem PairIs.kv {H : Heap} {x : V} {kv : Int × Int} (h : PairIs H x kv) : kvOf H x = kv := by
  obtain ⟨r, rfl, h⟩ := h
  unfold kvOf
  simp only [h]
theorem PairIs.le {H H' : Heap} {x : V} {kv : Int × Int} (l : H.le H') (h : PairIs H x kv) : PairIs H' x kv := let ⟨r, e, h⟩ := h; ⟨r, e, l _ _ h⟩
theorem PairIs.lst {H : Heap} {x : V} {kv : Int × Int} {p : Nat} {xs : List V} {o : O} (hp : H p = some (.list xs)) (h : PairIs H x kv) : PairIs (H.upd p o) x kv := by
  obtain ⟨r, e, h⟩ := h
  refine ⟨r, e, ?_⟩
  rw [upd_ne (fun q => by rw [q, hp] at h; cases h)]; exact h
noncomputable abbrev Pairs (H : Heap) (xs : List V) (kvs : List (Int × Int)) : Prop := All2 (PairIs H) xs kvs
theorem Pairs.le {H H' : Heap} {xs : List V} {kvs : List (Int × Int)} (h : Pairs H xs kvs) (l : H.le H') : Pairs H' xs kvs := All2.mono (fun _ _ => PairIs.le l) h
theorem Pairs.lst {H : Heap} {xs ys : List V} {kvs : List (Int × Int)} {p : Nat} {o : O} (h : Pairs H xs kvs) (hp : H p = some (.list ys)) : Pairs (H.upd p o) xs kvs := All2.mono (fun _ _ => PairIs.lst hp) h
noncomputable def dPairs (kvs : List (Int × Int)) : D := .list (kvs.map fun kv => .tup [.int kv.1, .int kv.2])
theorem comp_pure {elt : Loc → Heap → PV → Prop} {cond : Loc → Heap → (Bool → Heap → Prop) → Prop} {ok : Heap → Prop} {m : Loc} {xs : List V} {H : Heap} {Q : PV} (p : V → Bool) (f : V → V) (hok : ok H) (hz : xs.length ≤ lim)
    (hc : ∀ x ∈ xs, ∀ K : Bool → Heap → Prop, K (p x) H → cond (m ++ [some x]) H K) (he : ∀ x ∈ xs, p x = true → ∀ K : PV, K (f x) H → elt (m ++ [some x]) H K)
    (k : ∀ b, H b = none → Q (.ref b) (H.upd b (.list ((xs.filter p).map f)))) : compW elt cond 1 ok m xs [] H Q := by
  refine comp_inv (fun k acc H' => H' = H ∧ acc = ((xs.take k).filter p).map f) ⟨rfl, rfl⟩ (fun j x acc H' K hx hI hK => ?_) fun acc H' hI => ?_
  · obtain ⟨rfl, rfl⟩ := hI
    have hm : x ∈ xs := List.mem_of_getElem? hx
    have ht : xs.take (j + 1) = xs.take j ++ [x] := by
      rw [List.take_succ, hx]; rfl
    refine ⟨hok, ?_, ?_⟩
    · have h1 := List.length_filter_le p (xs.take j)
      have h2 := List.length_take_le j xs
      have h3 : (xs.take j).length ≤ xs.length := by rw [List.length_take]; (first | lia | omega)
      rw [List.length_map]; (first | lia | omega)
    · show cond (m ++ [some x]) H' _
      refine hc x hm _ ?_
      cases hp : p x with
      | false =>
        refine hK _ _ ⟨rfl, ?_⟩
        rw [ht, List.filter_append]; simp [hp]
      | true =>
        refine he x hm hp _ ⟨H', fun _ _ e => e, hK _ _ ⟨rfl, ?_⟩⟩
        rw [ht, List.filter_append]; simp [hp]
  · obtain ⟨rfl, rfl⟩ := hI
    rw [List.take_length]
    refine ⟨hok, ?_, k⟩
    have h1 := List.length_filter_le p xs
    rw [List.length_map]; (first | lia | omega)
theorem comp_map {Φ : Orac} {elt : Loc → Heap → PV → Prop} {ok : Heap → Prop} {m : Loc} {xs : List V} {H : Heap} {Q : PV} (f : V → V) (hok : ok H) (hz : xs.length ≤ lim)
    (he : ∀ x ∈ xs, ∀ K : PV, K (f x) H → elt (m ++ [some x]) H K) (k : ∀ b, H b = none → Q (.ref b) (H.upd b (.list (xs.map f)))) : compW elt (wpC Φ none) 1 ok m xs [] H Q := by
  refine comp_pure (fun _ => true) f hok hz (fun x _ K h => r_cnone h) (fun x hx _ => he x hx) ?_
  rw [List.filter_eq_self.mpr (fun _ _ => rfl)]
  exact k
end ML
namespace ML
section
variable {T : Nat → Option Fn} (S : Sys T)
theorem spec_init (h0 : T 0 = some f_Node_init) {H : Heap} {a : Nat} {x y z : V} {Q : PV} (ha : H a = some (.inst 0 [])) (h : Q .none (H.upd a (.inst 0 [(0, x), (1, y), (2, z)]))) : S.Φ 0 [.ref a, x, y, z] H Q := by
  refine S.call h0 rfl ?_
  dsimp only [f_Node_init]
  walk_at "z"
  refine v_setAttr (fs' := [(0, x)]) ha (by decide) rfl ?_
  refine v_setAttr (fs' := [(0, x), (1, y)]) upd_self (by simp) rfl ?_
  refine v_setAttr (fs' := [(0, x), (1, y), (2, z)]) upd_self (by simp) rfl ?_
  refine end_old rfl (fun p o e => ?_) h
  by_cases q : p = a
  · subst q; rw [upd_self] at e ⊢; exact e
  · rw [upd_ne q] at e; rw [upd_ne q, upd_ne q, upd_ne q]; exact e
theorem upd_upd {H : Heap} {a : Nat} {o o' : O} : (H.upd a o).upd a o' = H.upd a o' := by
  funext b
  by_cases q : b = a
  · simp [Heap.upd, q]
  · simp [Heap.upd, q]
theorem new_node (h0 : T 0 = some f_Node_init) {H : Heap} {x y z : V} {Q : Nat → Heap → Prop} (h : ∀ a, H a = none → Q a (H.upd a (.inst 0 [(0, x), (1, y), (2, z)]))) :
    ∀ a, H a = none → S.Φ 0 (.ref a :: [x, y, z]) (H.upd a (.inst 0 [])) fun r H => r = .none ∧ Q a H := fun a na =>
  spec_init S h0 upd_self ⟨rfl, by rw [upd_upd]; exact h a na⟩
theorem spec_lay (h4 : T 4 = some f_lay) {H : Heap} {a : Nat} {x y z x' y' z' : V} {Q : PV} (ha : H a = some (.inst 0 [(0, x'), (1, y'), (2, z')])) (h : Q .none (H.upd a (.inst 0 [(0, x), (1, y), (2, z)]))) : S.Φ 4 [.ref a, x, y, z] H Q := by
  refine S.call h4 rfl ?_
  dsimp only [f_lay]
  walk_at "z"
  refine v_setAttr (fs' := [(0, x), (1, y'), (2, z')]) ha (by simp) rfl ?_
  refine v_setAttr (fs' := [(0, x), (1, y), (2, z')]) upd_self (by simp) rfl ?_
  refine v_setAttr (fs' := [(0, x), (1, y), (2, z)]) upd_self (by simp) rfl ?_
  rw [upd_upd, upd_upd]
  exact end_ret rfl h
noncomputable def below (ks : List Int) (key : Int) : Nat := (ks.filter fun k => decide (k < key)).length
noncomputable def slBody : List ML.S := [
    .assign 4 (.bop .fdiv (.bop .add (.var 2) (.var 3)) (.lit (.int 2))),
    .ite (.cmp .lt (.idx (.attr (.var 0) 0) (.var 4)) (.var 1)) [
      .assign 2 (.bop .add (.var 4) (.lit (.int 1)))] [
      .assign 3 (.var 4)]]
structure Slot (ks : List Int) (key : Int) (l h : Nat) : Prop where
  le : l ≤ h
  len : h ≤ ks.length
  lt : ∀ (j : Nat) k, j < l → ks[j]? = some k → k < key
  ge : ∀ (j : Nat) k, h ≤ j → ks[j]? = some k → key ≤ k
end
end ML
namespace ML
inductive Tree where
  | node (a : Nat) (ks : List Int) (vs : List V) (cs : List Tree)
noncomputable def Tree.addr : Tree → Nat
  | .node a _ _ _ => a
noncomputable def Tree.keys : Tree → List Int
  | .node _ ks _ _ => ks
noncomputable def Tree.vals : Tree → List V
  | .node _ _ vs _ => vs
noncomputable def Tree.kids : Tree → List Tree
  | .node _ _ _ cs => cs
noncomputable def refsOf (cs : List Tree) : List V := cs.map fun t => V.ref t.addr
noncomputable def NodeAt (H : Heap) (a : Nat) (ks : List Int) (vs : List V) (cs : List V) : Prop :=
  ∃ k v c, H a = some (.inst 0 [(0, .ref k), (1, .ref v), (2, .ref c)]) ∧ H k = some (.list (ks.map V.int)) ∧ H v = some (.list vs) ∧ H c = some (.list cs)
mutual
noncomputable def Holds (H : Heap) : Tree → Prop
  | .node a ks vs cs => NodeAt H a ks vs (refsOf cs) ∧ HoldsL H cs
noncomputable def HoldsL (H : Heap) : List Tree → Prop
  | [] => True
  | t :: r => Holds H t ∧ HoldsL H r
end
mutual
noncomputable def Tree.addrs : Tree → List Nat
  | .node a _ _ cs => a :: addrsL cs
noncomputable def addrsL : List Tree → List Nat
  | [] => []
  | t :: r => t.addrs ++ addrsL r
end
theorem NodeAt.le {H H' : Heap} {a : Nat} {ks : List Int} {vs cs : List V} (h : NodeAt H a ks vs cs) (l : H.le H') : NodeAt H' a ks vs cs := let ⟨k, v, c, h1, h2, h3, h4⟩ := h; ⟨k, v, c, l _ _ h1, l _ _ h2, l _ _ h3, l _ _ h4⟩
theorem NodeAt.upd {H : Heap} {a b c : Nat} {ks : List Int} {vs cs : List V} {o : O} {fs : List (Nat × V)} (h : NodeAt H a ks vs cs) (hb : H b = some (.inst c fs)) (hn : b ≠ a) : NodeAt (H.upd b o) a ks vs cs := by
  obtain ⟨k, v, c', h1, h2, h3, h4⟩ := h
  have nl : ∀ {p xs}, H p = some (.list xs) → (H.upd b o) p = some (.list xs) := fun {p xs} hp => by
    rw [upd_ne (fun e => by rw [e, hb] at hp; cases hp)]; exact hp
  exact ⟨k, v, c', (upd_ne (Ne.symm hn)).trans h1, nl h2, nl h3, nl h4⟩
mutual
theorem Holds.le {H H' : Heap} (l : H.le H') : ∀ {t : Tree}, Holds H t → Holds H' t
  | .node _ _ _ _, ⟨h1, h2⟩ => ⟨h1.le l, HoldsL.le l h2⟩
theorem HoldsL.le {H H' : Heap} (l : H.le H') : ∀ {ts : List Tree}, HoldsL H ts → HoldsL H' ts
  | [], _ => trivial
  | _ :: _, ⟨h1, h2⟩ => ⟨Holds.le l h1, HoldsL.le l h2⟩
end
mutual
theorem Holds.upd {H : Heap} {b c : Nat} {o : O} {fs : List (Nat × V)} (hb : H b = some (.inst c fs)) : ∀ {t : Tree}, Holds H t → b ∉ t.addrs → Holds (H.upd b o) t
  | .node a _ _ cs, ⟨h1, h2⟩, hn => by
    simp only [Tree.addrs, List.mem_cons, not_or] at hn
    exact ⟨h1.upd hb hn.1, HoldsL.upd hb h2 hn.2⟩
theorem HoldsL.upd {H : Heap} {b c : Nat} {o : O} {fs : List (Nat × V)} (hb : H b = some (.inst c fs)) : ∀ {ts : List Tree}, HoldsL H ts → b ∉ addrsL ts → HoldsL (H.upd b o) ts
  | [], _, _ => trivial
  | t :: r, ⟨h1, h2⟩, hn => by
    simp only [addrsL, List.mem_append, not_or] at hn
    exact ⟨Holds.upd hb h1 hn.1, HoldsL.upd hb h2 hn.2⟩
end
end ML
namespace ML
theorem le_updF {H G : Heap} {a : Nat} {o : O} (l : H.le G) (h : H a = none) : H.le (G.upd a o) := fun p x hp => by
  have : p ≠ a := fun e => by rw [e, h] at hp; cases hp
  rw [upd_ne this]; exact l _ _ hp
mutual
noncomputable def Tree.flat : Tree → List V
  | .node _ ks vs cs => (V.int ks.length :: ks.map V.int) ++ (vs ++ (V.int cs.length :: flatL cs))
noncomputable def flatL : List Tree → List V
  | [] => []
  | t :: r => t.flat ++ flatL r
end
theorem HoldsL.app {H : Heap} : ∀ {a b : List Tree}, HoldsL H a → HoldsL H b → HoldsL H (a ++ b)
  | [], _, _, h => h
  | _ :: _, _, ⟨h1, h2⟩, h => ⟨h1, HoldsL.app h2 h⟩
section
variable {T : Nat → Option Fn} (S : Sys T)
end
end ML
namespace ML
noncomputable def f_law_cell : Fn := ⟨2, 2, [
  .ite (.cmp .lt (.var 1) (.prim .len [(.var 0)])) [
    .ret (some (.idx (.var 0) (.var 1)))] [],
  .ret (some (.lit (.int 0)))]⟩
noncomputable def cell (ns : List Int) (k : Int) : Int := (ns[k.toNat]?).getD 0
theorem emod_b (c n : Int) (h : 0 < n) : 0 ≤ c % n ∧ c % n < n := ⟨Int.emod_nonneg _ (by (first | lia | omega)), Int.emod_lt_of_pos _ h⟩
theorem v_allocL {o : O} {H : Heap} {Q : PV} (k : ∀ a H', H.le H' → H a = none → H' a = some o → Q (.ref a) H') : allocW o H Q := fun a na => k a _ (Heap.le_upd na) na upd_self
noncomputable def Heap.del (H : Heap) (a : Nat) : Heap := fun b => if b = a then none else H b
theorem del_self {H : Heap} {a : Nat} : H.del a a = none := by simp [Heap.del]
theorem del_ne {H : Heap} {a p : Nat} (h : p ≠ a) : H.del a p = H p := by simp [Heap.del, h]
theorem del_le {H : Heap} {a : Nat} : (H.del a).le H := fun p o h => by
  by_cases e : p = a
  · rw [e, del_self] at h; cases h
  · rw [del_ne e] at h; exact h
theorem del_mono {H G : Heap} {a : Nat} (l : H.le G) : (H.del a).le (G.del a) := fun p o h => by
  by_cases e : p = a
  · rw [e, del_self] at h; cases h
  · rw [del_ne e] at h; rw [del_ne e]; exact l _ _ h
theorem del_upd {H : Heap} {a : Nat} {o : O} : (H.upd a o).del a = H.del a := by
  funext b
  by_cases e : b = a
  · rw [e, del_self, del_self]
  · rw [del_ne e, del_ne e, upd_ne e]
theorem le_del {H G : Heap} {a : Nat} (l : H.le G) (h : H a = none) : H.le (G.del a) := fun p o hp => by
  rw [del_ne (fun e => by rw [e, h] at hp; cases hp)]; exact l _ _ hp
section
variable {T : Nat → Option Fn} (S : Sys T)
theorem spec_cell (hd : T 50 = some f_law_cell) {H : Heap} {a : Nat} {ns : List Int} {k : Int} {Q : PV} (ha : H a = some (.ro (ns.map V.int))) (h0 : 0 ≤ k) (hn : ns.length ≤ 63) (h : Q (.int (cell ns k)) H) : S.Φ 50 [.ref a, .int k] H Q := by
  refine S.call hd rfl ?_
  dsimp only [f_law_cell]
  walk_at "z"
  refine v_len ha rfl ?_
  walk_at "z"
  rw [List.length_map]
  refine v_if (fun e => ?_) fun e => ?_
  · have e := of_decide_eq_true e
    refine v_idx (xs := ns.map V.int) (v := .int (cell ns k)) ha rfl h0 (by unfold lim; (first | lia | omega)) ?_ ?_
    · unfold cell
      rw [List.getElem?_map, List.getElem?_eq_getElem (by (first | lia | omega))]; rfl
    · exact end_ret rfl h
  · have e := of_decide_eq_false e
    refine end_ret rfl ?_
    unfold cell at h
    rw [List.getElem?_eq_none (by (first | lia | omega))] at h
    exact h
end
end ML
namespace ML
noncomputable def Tree.lh : Tree → Nat
  | .node _ _ _ [] => 0
  | .node _ _ _ (c :: _) => c.lh + 1
theorem Holds.at {H : Heap} : ∀ {t : Tree}, Holds H t → NodeAt H t.addr t.keys t.vals (refsOf t.kids)
  | .node _ _ _ _, h => h.1
section
variable {T : Nat → Option Fn} (S : Sys T)
theorem new_canopy (h0 : T 0 = some f_Node_init) (h1 : T 1 = some f_Canopy_init) {H : Heap} {x : V} {Q : Nat → Heap → Prop}
    (h : ∀ c n H', H.le H' → H c = none → H n = none → n ≠ c → H' c = some (.inst 1 [(3, x), (4, .ref n), (5, .int 0)]) → Holds (H'.del c) (.node n [] [] []) → Q c H') :
    ∀ a, H a = none → S.Φ 1 (.ref a :: [x]) (H.upd a (.inst 1 [])) fun r H => r = .none ∧ Q a H := fun a na => by
  refine S.call h1 rfl ?_
  dsimp only [f_Canopy_init]
  walk_at "z"
  refine v_setAttr (fs' := [(3, x)]) upd_self (by simp) rfl ?_
  walk_at "z"
  rw [upd_upd]
  refine v_alloc fun k nk => ?_
  refine v_alloc fun v nv => ?_
  refine v_alloc fun c nc => ?_
  walk_at "z"
  refine new_node S h0 fun n nn => ?_
  obtain ⟨nn, e3⟩ := upd_none_of nn
  obtain ⟨nn, e2⟩ := upd_none_of nn
  obtain ⟨nn, e1⟩ := upd_none_of nn
  obtain ⟨nn, e0⟩ := upd_none_of nn
  obtain ⟨nc, d2⟩ := upd_none_of nc
  obtain ⟨nc, d1⟩ := upd_none_of nc
  obtain ⟨nc, d0⟩ := upd_none_of nc
  obtain ⟨nv, c1⟩ := upd_none_of nv
  obtain ⟨nv, c0⟩ := upd_none_of nv
  obtain ⟨nk, b0⟩ := upd_none_of nk
  walk_at "z"
  refine v_setAttr (c := 1) (fs := [(3, x)]) (fs' := [(3, x), (4, .ref n)]) ((upd_ne e0.symm).trans ((upd_ne d0.symm).trans ((upd_ne c0.symm).trans ((upd_ne b0.symm).trans upd_self)))) (by simp) rfl ?_
  walk_at "z"
  refine v_setAttr (fs' := [(3, x), (4, .ref n), (5, .int 0)]) upd_self (by simp) rfl ?_
  rw [upd_upd]
  refine ⟨_, Heap.le_refl _, rfl, h a n _ ?_ na nn e0 upd_self ?_⟩
  · exact le_updF (le_updF (le_updF (le_updF (le_updF (le_updF (Heap.le_refl _) na) nk) nv) nc) nn) na
  · rw [del_upd]
    refine ⟨⟨k, v, c, ?_, ?_, ?_, ?_⟩, trivial⟩
    · rw [del_ne e0, upd_self]
    · rw [del_ne b0, upd_ne e1.symm, upd_ne d1.symm, upd_ne c1.symm, upd_self]; rfl
    · rw [del_ne c0, upd_ne e2.symm, upd_ne d2.symm, upd_self]
    · rw [del_ne d0, upd_ne e3.symm, upd_self]; rfl
theorem spec_adopt (h7 : T 7 = some f_adopt) {H : Heap} {c : Nat} {x y z r n : V} {Q : PV} (hc : H c = some (.inst 1 [(3, x), (4, y), (5, z)])) (h : Q .none (H.upd c (.inst 1 [(3, x), (4, r), (5, n)]))) : S.Φ 7 [.ref c, r, n] H Q := by
  refine S.call h7 rfl ?_
  dsimp only [f_adopt]
  walk_at "z"
  refine v_setAttr (fs' := [(3, x), (4, r), (5, z)]) hc (by simp) rfl ?_
  walk_at "z"
  refine v_setAttr (fs' := [(3, x), (4, r), (5, n)]) upd_self (by simp) rfl ?_
  rw [upd_upd]
  exact end_ret rfl h
end
end ML
namespace ML
noncomputable abbrev KV := Int × V
section
variable {α : Type}
noncomputable def weave : List (List α) → List α → List α
  | [], ps => ps
  | c :: cs, [] => c ++ weave cs []
  | c :: cs, p :: ps => c ++ p :: weave cs ps
noncomputable def weaveL : List (List α) → List α → List α
  | a :: A, p :: P => a ++ p :: weaveL A P
  | _, _ => []
noncomputable def weaveR (Q : List α) (B : List (List α)) : List α := match Q with
  | [] => weave B []
  | q :: Q => q :: weave B Q
theorem weave_cons {c : List α} {B : List (List α)} {Q : List α} : weave (c :: B) Q = c ++ weaveR Q B := by cases Q <;> rfl
theorem weave_split {c : List α} {B : List (List α)} {Q : List α} : ∀ {A : List (List α)} {P : List α}, A.length = P.length → weave (A ++ c :: B) (P ++ Q) = weaveL A P ++ (c ++ weaveR Q B)
  | [], [], _ => weave_cons
  | a :: A, p :: P, h => by
    show a ++ p :: weave (A ++ c :: B) (P ++ Q) = (a ++ p :: weaveL A P) ++ (c ++ weaveR Q B)
    rw [weave_split (A := A) (P := P) (by simpa using h)]
    simp
  | [], _ :: _, h => by cases h
  | _ :: _, [], h => by cases h
end
mutual
noncomputable def ino : Tree → List KV
  | .node _ ks vs cs => weave (inoL cs) (ks.zip vs)
noncomputable def inoL : List Tree → List (List KV)
  | [] => []
  | t :: r => ino t :: inoL r
end
theorem inoL_map : ∀ l : List Tree, inoL l = l.map ino
  | [] => rfl
  | t :: r => by show ino t :: inoL r = _; rw [inoL_map r]; rfl
noncomputable def Srt (l : List KV) : Prop := l.Pairwise fun a b => a.1 < b.1
noncomputable def putL (l : List KV) (k : Int) (v : V) : List KV := l.filter (fun p => decide (p.1 < k)) ++ (k, v) :: l.filter (fun p => decide (k < p.1))
theorem filt_all {l : List KV} {p : KV → Bool} (h : ∀ x ∈ l, p x = true) : l.filter p = l := List.filter_eq_self.mpr h
theorem filt_none {l : List KV} {p : KV → Bool} (h : ∀ x ∈ l, p x = false) : l.filter p = [] := List.filter_eq_nil_iff.mpr fun x hx => by rw [h x hx]; decide
theorem putL_mid {L M R : List KV} {k : Int} {v : V} (hL : ∀ x ∈ L, x.1 < k) (hR : ∀ x ∈ R, k < x.1) : putL (L ++ (M ++ R)) k v = L ++ (putL M k v ++ R) := by
  unfold putL
  simp only [List.filter_append]
  rw [filt_all (l := L) (p := fun p => decide (p.1 < k)) fun x hx => by simpa using hL x hx, filt_none (l := R) (p := fun p => decide (p.1 < k)) fun x hx => by have := hR x hx; simp; (first | lia | omega),
    filt_none (l := L) (p := fun p => decide (k < p.1)) fun x hx => by have := hL x hx; simp; (first | lia | omega), filt_all (l := R) (p := fun p => decide (k < p.1)) fun x hx => by simpa using hR x hx]
  simp
theorem Srt.left {a b : List KV} (h : Srt (a ++ b)) : Srt a := (List.pairwise_append.mp h).1
theorem Srt.right {a b : List KV} (h : Srt (a ++ b)) : Srt b := (List.pairwise_append.mp h).2.1
theorem Srt.sub {a b : List KV} (s : List.Sublist a b) (h : Srt b) : Srt a := List.Pairwise.sublist s h
theorem weaveL_lt {k : Int} {R : List KV} : ∀ {A : List (List KV)} {P : List KV}, Srt (weaveL A P ++ R) → (∀ p ∈ P, p.1 < k) → ∀ x ∈ weaveL A P, x.1 < k
  | [], _, _, _, _, hx => by cases hx
  | _ :: _, [], _, _, _, hx => by cases hx
  | a :: A, p :: P, hs, hp, x, hx => by
    have e : weaveL (a :: A) (p :: P) ++ R = a ++ (p :: (weaveL A P ++ R)) := by simp [weaveL]
    rw [e] at hs
    have h := List.pairwise_append.mp hs
    have hp0 := hp p (.head _)
    rcases List.mem_append.mp (show x ∈ a ++ p :: weaveL A P from hx) with q | q
    · have := h.2.2 x q p (.head _)
      (first | lia | omega)
    · rcases List.mem_cons.mp q with rfl | q
      · exact hp0
      · exact weaveL_lt (List.pairwise_cons.mp h.2.1).2 (fun y hy => hp y (.tail _ hy)) x q
theorem weaveR_gt {k : Int} {Q : List KV} {B : List (List KV)} (hs : Srt (weaveR Q B)) (hQ : ∀ p ∈ Q, k < p.1) (hB : Q = [] → B = []) : ∀ x ∈ weaveR Q B, k < x.1 := by
  intro x hx
  cases Q with
  | nil => rw [hB rfl] at hx; cases hx
  | cons q Q =>
    have h0 := hQ q (.head _)
    rcases List.mem_cons.mp (show x ∈ q :: weave B Q from hx) with rfl | q'
    · exact h0
    · have := (List.pairwise_cons.mp hs).1 x q'
      (first | lia | omega)
noncomputable def Sh (T : Nat) : Nat → Tree → Prop
  | 0, .node _ ks vs cs => cs = [] ∧ vs.length = ks.length ∧ ks.length ≤ 2 * T - 1
  | h + 1, .node _ ks vs cs => cs.length = ks.length + 1 ∧ vs.length = ks.length ∧ ks.length ≤ 2 * T - 1 ∧ ∀ c ∈ cs, Sh T h c ∧ T - 1 ≤ c.keys.length
theorem Sh.len {T h : Nat} {t : Tree} (s : Sh T h t) : t.vals.length = t.keys.length ∧ t.keys.length ≤ 2 * T - 1 := by
  cases h <;> cases t
  · exact ⟨s.2.1, s.2.2⟩
  · exact ⟨s.2.1, s.2.2.1⟩
noncomputable def ins {α : Type} (l : List α) (i : Nat) (x : α) : List α := l.take i ++ x :: l.drop i
theorem zip_len {ks : List Int} {vs : List V} (h : vs.length = ks.length) : (ks.zip vs).length = ks.length := by rw [List.length_zip]; (first | lia | omega)
theorem set_split {α : Type} {l : List α} {i : Nat} {x : α} (h : i < l.length) : l.set i x = l.take i ++ x :: l.drop (i + 1) := by
  rw [List.set_eq_take_append_cons_drop]; simp [h]
theorem get_split {α : Type} {l : List α} {i : Nat} {x : α} (h : l[i]? = some x) : l = l.take i ++ x :: l.drop (i + 1) := by
  have := drop_cons h
  rw [← this, List.take_append_drop]
theorem zip_mem_take {ks : List Int} {vs : List V} {i : Nat} {p : KV} (h : p ∈ (ks.zip vs).take i) : ∃ j, j < i ∧ ks[j]? = some p.1 := by
  obtain ⟨j, hj⟩ := List.mem_iff_getElem?.mp h
  rw [List.getElem?_take] at hj
  split at hj
  · rename_i q
    exact ⟨j, q, (List.getElem?_zip_eq_some.mp hj).1⟩
  · cases hj
theorem zip_mem_drop {ks : List Int} {vs : List V} {i : Nat} {p : KV} (h : p ∈ (ks.zip vs).drop i) : ∃ j, i ≤ j ∧ ks[j]? = some p.1 := by
  obtain ⟨j, hj⟩ := List.mem_iff_getElem?.mp h
  rw [List.getElem?_drop] at hj
  exact ⟨i + j, by (first | lia | omega), (List.getElem?_zip_eq_some.mp hj).1⟩
theorem inoL_split {cs : List Tree} {i : Nat} {c : Tree} (h : cs[i]? = some c) : inoL cs = inoL (cs.take i) ++ ino c :: inoL (cs.drop (i + 1)) := by
  have := get_split h
  rw [inoL_map, inoL_map, inoL_map]
  conv => lhs; rw [this]
  simp
theorem inoL_set {cs : List Tree} {i : Nat} {c c' : Tree} (h : cs[i]? = some c) : inoL (cs.set i c') = inoL (cs.take i) ++ ino c' :: inoL (cs.drop (i + 1)) := by
  have hi : i < cs.length := lt_of_get h
  rw [set_split hi, inoL_map, inoL_map, inoL_map]
  simp
noncomputable def inL (ks : List Int) (vs : List V) (cs : List Tree) (i : Nat) : List KV := weaveL (inoL (cs.take i)) ((ks.zip vs).take i)
noncomputable def inR (ks : List Int) (vs : List V) (cs : List Tree) (i : Nat) : List KV := weaveR ((ks.zip vs).drop i) (inoL (cs.drop (i + 1)))
theorem ino_at {a : Nat} {ks : List Int} {vs : List V} {cs : List Tree} {i : Nat} {c : Tree} (hv : vs.length = ks.length) (hi : i ≤ ks.length) (hc : cs[i]? = some c) : ino (.node a ks vs cs) = inL ks vs cs i ++ (ino c ++ inR ks vs cs i) := by
  have hlt : i < cs.length := lt_of_get hc
  show weave (inoL cs) (ks.zip vs) = _
  conv => lhs; rw [inoL_split hc, ← List.take_append_drop i (ks.zip vs)]
  exact weave_split (by rw [inoL_map, List.length_map, List.length_take, List.length_take, zip_len hv]; (first | lia | omega))
theorem ino_set {a : Nat} {ks : List Int} {vs : List V} {cs : List Tree} {i : Nat} {c c' : Tree} (hv : vs.length = ks.length) (hi : i ≤ ks.length) (hc : cs[i]? = some c) : ino (.node a ks vs (cs.set i c')) = inL ks vs cs i ++ (ino c' ++ inR ks vs cs i) := by
  have hlt : i < cs.length := lt_of_get hc
  show weave (inoL (cs.set i c')) (ks.zip vs) = _
  conv => lhs; rw [inoL_set hc, ← List.take_append_drop i (ks.zip vs)]
  exact weave_split (by rw [inoL_map, List.length_map, List.length_take, List.length_take, zip_len hv]; (first | lia | omega))
structure Under (ks : List Int) (i : Nat) (key : Int) : Prop where
  lt : ∀ (j : Nat) k, j < i → ks[j]? = some k → k < key
  gt : ∀ (j : Nat) k, i ≤ j → ks[j]? = some k → key < k
theorem under_sides {ks : List Int} {vs : List V} {cs : List Tree} {i : Nat} {c : Tree} {key : Int} {a : Nat} (hv : vs.length = ks.length) (hcl : cs.length = ks.length + 1) (hi : i ≤ ks.length) (hc : cs[i]? = some c) (hs : Srt (ino (.node a ks vs cs))) (u : Under ks i key) :
    (∀ x ∈ inL ks vs cs i, x.1 < key) ∧ ∀ x ∈ inR ks vs cs i, key < x.1 := by
  rw [ino_at hv hi hc] at hs
  refine ⟨weaveL_lt hs fun p hp => ?_, weaveR_gt (Srt.right (Srt.right hs)) (fun p hp => ?_) fun q => ?_⟩
  · obtain ⟨j, hj, e⟩ := zip_mem_take hp
    exact u.lt j _ hj e
  · obtain ⟨j, hj, e⟩ := zip_mem_drop hp
    exact u.gt j _ hj e
  · have : ((ks.zip vs).drop i).length = 0 := by rw [q]; rfl
    rw [List.length_drop, zip_len hv] at this
    rw [List.drop_of_length_le (by (first | lia | omega))]; rfl
theorem put_child {ks : List Int} {vs : List V} {cs : List Tree} {i : Nat} {c c' : Tree} {key : Int} {v : V} {a : Nat} (hv : vs.length = ks.length) (hcl : cs.length = ks.length + 1) (hi : i ≤ ks.length) (hc : cs[i]? = some c) (hs : Srt (ino (.node a ks vs cs))) (u : Under ks i key)
    (h : ino c' = putL (ino c) key v) : ino (.node a ks vs (cs.set i c')) = putL (ino (.node a ks vs cs)) key v := by
  obtain ⟨h1, h2⟩ := under_sides hv hcl hi hc hs u
  rw [ino_set hv hi hc, ino_at hv hi hc, putL_mid h1 h2, h]
noncomputable def lefty (T b : Nat) (kb : List Int) (vb : List V) (cb : List Tree) : Tree := .node b (kb.take (T - 1)) (vb.take (T - 1)) (cb.take T)
noncomputable def righty (T r : Nat) (kb : List Int) (vb : List V) (cb : List Tree) : Tree := .node r (kb.drop T) (vb.drop T) (cb.drop T)
noncomputable def splitT (T a i r : Nat) (ks : List Int) (vs : List V) (cs : List Tree) (b : Nat) (kb : List Int) (vb : List V) (cb : List Tree) (mk : Int) (mv : V) : Tree :=
  .node a (ins ks i mk) (ins vs i mv) (cs.take i ++ lefty T b kb vb cb :: righty T r kb vb cb :: cs.drop (i + 1))
end ML
namespace ML
theorem addrsL_app : ∀ a b : List Tree, addrsL (a ++ b) = addrsL a ++ addrsL b
  | [], _ => rfl
  | t :: r, b => by show t.addrs ++ addrsL (r ++ b) = _; rw [addrsL_app r b]; simp [addrsL]
theorem HoldsL.iff {H : Heap} : ∀ {ts : List Tree}, HoldsL H ts ↔ ∀ t ∈ ts, Holds H t
  | [] => ⟨fun _ _ h => (nomatch h), fun _ => trivial⟩
  | t :: r => by
    constructor
    · intro h y hy
      cases hy with
      | head => exact h.1
      | tail _ m => exact HoldsL.iff.mp h.2 y m
    · intro h
      exact ⟨h t (.head _), HoldsL.iff.mpr fun y hy => h y (.tail _ hy)⟩
mutual
theorem addrs_inst {H : Heap} : ∀ {t : Tree}, Holds H t → ∀ b ∈ t.addrs, ∃ fs, H b = some (.inst 0 fs)
  | .node a ks vs cs, ⟨⟨k, v, c, h1, _⟩, h2⟩, b, hb => by
    rcases List.mem_cons.mp (show b ∈ a :: addrsL cs from hb) with rfl | hb
    · exact ⟨_, h1⟩
    · exact addrsL_inst h2 b hb
theorem addrsL_inst {H : Heap} : ∀ {ts : List Tree}, HoldsL H ts → ∀ b ∈ addrsL ts, ∃ fs, H b = some (.inst 0 fs)
  | t :: r, ⟨h1, h2⟩, b, hb => by
    rcases List.mem_append.mp (show b ∈ t.addrs ++ addrsL r from hb) with hb | hb
    · exact addrs_inst h1 b hb
    · exact addrsL_inst h2 b hb
end
noncomputable def Frame (A : List Nat) (G G' : Heap) : Prop := ∀ b o, G b = some o → b ∉ A → G' b = some o
noncomputable def Insts (A : List Nat) (G : Heap) : Prop := ∀ b ∈ A, ∃ c fs, G b = some (.inst c fs)
theorem NodeAt.frame {A : List Nat} {G G' : Heap} {a : Nat} {ks : List Int} {vs cs : List V} (h : NodeAt G a ks vs cs) (f : Frame A G G') (i : Insts A G) (n : a ∉ A) : NodeAt G' a ks vs cs := by
  obtain ⟨k, v, c, h1, h2, h3, h4⟩ := h
  have nl : ∀ {p xs}, G p = some (.list xs) → G' p = some (.list xs) := fun {p xs} hp => f _ _ hp fun q => by
    obtain ⟨_, _, e⟩ := i p q
    rw [hp] at e; cases e
  exact ⟨k, v, c, f _ _ h1 n, nl h2, nl h3, nl h4⟩
mutual
theorem Holds.frame {A : List Nat} {G G' : Heap} (f : Frame A G G') (i : Insts A G) : ∀ {t : Tree}, Holds G t → (∀ b ∈ t.addrs, b ∉ A) → Holds G' t
  | .node a _ _ cs, ⟨h1, h2⟩, n => ⟨h1.frame f i (n a (.head _)), HoldsL.frame f i h2 fun b hb => n b (.tail _ hb)⟩
theorem HoldsL.frame {A : List Nat} {G G' : Heap} (f : Frame A G G') (i : Insts A G) : ∀ {ts : List Tree}, HoldsL G ts → (∀ b ∈ addrsL ts, b ∉ A) → HoldsL G' ts
  | [], _, _ => trivial
  | _ :: _, ⟨h1, h2⟩, n => ⟨Holds.frame f i h1 fun b hb => n b (List.mem_append.mpr (.inl hb)), HoldsL.frame f i h2 fun b hb => n b (List.mem_append.mpr (.inr hb))⟩
end
structure Upd (G G' : Heap) (t t' : Tree) : Prop where
  addr : t'.addr = t.addr
  holds : Holds G' t'
  nodup : t'.addrs.Nodup
  new : ∀ b ∈ t'.addrs, b ∈ t.addrs ∨ G b = none
  frame : Frame t.addrs G G'
theorem Upd.refl {G : Heap} {t : Tree} (h : Holds G t) (n : t.addrs.Nodup) : Upd G G t t := ⟨rfl, h, n, fun _ hb => .inl hb, fun _ _ e _ => e⟩
theorem Upd.trans {G G1 G2 : Heap} {t t1 t2 : Tree} (x : Upd G G1 t t1) (y : Upd G1 G2 t1 t2) : Upd G G2 t t2 := by
  refine ⟨y.addr.trans x.addr, y.holds, y.nodup, fun b hb => ?_, fun b o e hb => y.frame b o (x.frame b o e hb) fun q => ?_⟩
  · rcases y.new b hb with q | q
    · exact x.new b q
    · by_cases hm : b ∈ t.addrs
      · exact .inl hm
      · cases e : G b with
        | none => exact .inr rfl
        | some o => rw [x.frame b o e hm] at q; cases q
  · rcases x.new b q with q | q
    · exact hb q
    · rw [e] at q; cases q
theorem addrs_node {a : Nat} {ks : List Int} {vs : List V} {cs : List Tree} : (Tree.node a ks vs cs).addrs = a :: addrsL cs := rfl
theorem Upd.child {G G' : Heap} {a : Nat} {ks : List Int} {vs : List V} {L R : List Tree} {c c' : Tree} (h : Holds G (.node a ks vs (L ++ c :: R))) (n : (Tree.node a ks vs (L ++ c :: R)).addrs.Nodup) (u : Upd G G' c c') :
    Upd G G' (.node a ks vs (L ++ c :: R)) (.node a ks vs (L ++ c' :: R)) := by
  obtain ⟨h1, h2⟩ := h
  have e : ∀ x : Tree, addrsL (L ++ x :: R) = addrsL L ++ (x.addrs ++ addrsL R) := fun x => by rw [addrsL_app]; rfl
  rw [addrs_node, e] at n
  obtain ⟨n1, n2⟩ := List.nodup_cons.mp n
  obtain ⟨nL, nR, nX⟩ := List.nodup_append.mp n2
  obtain ⟨nC, nR, nY⟩ := List.nodup_append.mp nR
  have hL : HoldsL G L := HoldsL.iff.mpr fun t ht => HoldsL.iff.mp h2 t (List.mem_append.mpr (.inl ht))
  have hR : HoldsL G R := HoldsL.iff.mpr fun t ht => HoldsL.iff.mp h2 t (List.mem_append.mpr (.inr (.tail _ ht)))
  have hC : Holds G c := HoldsL.iff.mp h2 c (List.mem_append.mpr (.inr (.head _)))
  have iA : Insts c.addrs G := fun b hb => let ⟨fs, e⟩ := addrs_inst hC b hb; ⟨_, fs, e⟩
  have dis : ∀ b ∈ c'.addrs, ∀ {p : Prop}, (b ∈ c.addrs → p) → (G b = none → p) → p := fun b hb p f g => (u.new b hb).elim f g
  have no : ∀ {b : Nat} {ts : List Tree}, HoldsL G ts → b ∈ addrsL ts → G b ≠ none := fun hts hb q => by
    obtain ⟨fs, e⟩ := addrsL_inst hts _ hb
    rw [q] at e; cases e
  refine ⟨rfl, ⟨?_, ?_⟩, ?_, ?_, ?_⟩
  · have er : refsOf (L ++ c' :: R) = refsOf (L ++ c :: R) := by simp [refsOf, u.addr]
    rw [er]
    exact h1.frame u.frame iA fun q => n1 (List.mem_append.mpr (.inr (List.mem_append.mpr (.inl q))))
  · refine HoldsL.iff.mpr fun t ht => ?_
    rcases List.mem_append.mp ht with q | q
    · exact HoldsL.iff.mp (HoldsL.frame u.frame iA hL fun b hb q => nX b hb b (List.mem_append.mpr (.inl q)) rfl) t q
    · rcases List.mem_cons.mp q with rfl | q
      · exact u.holds
      · exact HoldsL.iff.mp (HoldsL.frame u.frame iA hR fun b hb q => nY b q b hb rfl) t q
  · rw [addrs_node, e]
    refine List.nodup_cons.mpr ⟨fun q => ?_, List.nodup_append.mpr ⟨nL, List.nodup_append.mpr ⟨u.nodup, nR, fun x hx y hy q => ?_⟩, fun x hx y hy q => ?_⟩⟩
    · rcases List.mem_append.mp q with q | q
      · exact n1 (List.mem_append.mpr (.inl q))
      · rcases List.mem_append.mp q with q | q
        · refine dis a q (fun q => n1 (List.mem_append.mpr (.inr (List.mem_append.mpr (.inl q))))) fun q => ?_
          obtain ⟨_, _, _, e, _⟩ := h1
          rw [q] at e; cases e
        · exact n1 (List.mem_append.mpr (.inr (List.mem_append.mpr (.inr q))))
    · subst q
      exact dis x hx (fun q => nY x q x hy rfl) fun q => no hR hy q
    · subst q
      rcases List.mem_append.mp hy with q | q
      · exact dis x q (fun q => nX x hx x (List.mem_append.mpr (.inl q)) rfl) fun q => no hL hx q
      · exact nX x hx x (List.mem_append.mpr (.inr q)) rfl
  · intro b hb
    rw [addrs_node, e] at hb ⊢
    rcases List.mem_cons.mp hb with rfl | hb
    · exact .inl (.head _)
    · rcases List.mem_append.mp hb with q | q
      · exact .inl (.tail _ (List.mem_append.mpr (.inl q)))
      · rcases List.mem_append.mp q with q | q
        · rcases u.new b q with q | q
          · exact .inl (.tail _ (List.mem_append.mpr (.inr (List.mem_append.mpr (.inl q)))))
          · exact .inr q
        · exact .inl (.tail _ (List.mem_append.mpr (.inr (List.mem_append.mpr (.inr q)))))
  · intro b o eb hb
    refine u.frame b o eb fun q => hb ?_
    rw [addrs_node, e]
    exact .tail _ (List.mem_append.mpr (.inr (List.mem_append.mpr (.inl q))))
end ML
namespace ML
theorem cut_to {α : Type} {xs : List α} {h : Int} : cut xs none (some h) = xs.take h.toNat := rfl
theorem cut_from {α : Type} {xs : List α} {l : Int} : cut xs (some l) none = xs.drop l.toNat := rfl
theorem add1_ok {xs : List V} {l : Int} {x : V} (h : xs.length ≤ 100001) : (cut xs none (some l)).length + [x].length ≤ lim := by
  rw [cut_to]
  have := List.length_take_le' l.toNat xs
  show _ ≤ 1000000
  simp only [List.length_cons, List.length_nil]; (first | lia | omega)
theorem add2_ok {xs : List V} {l l' : Int} {x : V} (h : xs.length ≤ 100001) : (cut xs none (some l) ++ [x]).length + (cut xs (some l') none).length ≤ lim := by
  rw [cut_to, cut_from, List.length_append, List.length_drop]
  have := List.length_take_le' l.toNat xs
  show _ ≤ 1000000
  simp only [List.length_cons, List.length_nil]; (first | lia | omega)
theorem lim1 {n : Nat} (h : n ≤ 100001) : n ≤ lim := Nat.le_trans h (by decide)
theorem le1 {n : Nat} (h : n ≤ 100000) : n ≤ 100001 := Nat.le_succ_of_le h
section
variable {T : Nat → Option Fn} (S : Sys T)
end
end ML
namespace ML
theorem mem_set {α : Type} {l : List α} {i : Nat} {x y : α} (h : y ∈ l.set i x) : y = x ∨ y ∈ l := (List.mem_or_eq_of_mem_set h).symm
theorem descend {D h a i : Nat} {G G' : Heap} {ks : List Int} {vs : List V} {cs : List Tree} {c c' : Tree} {key : Int} {v : V} (hh : Holds G (.node a ks vs cs)) (n : (Tree.node a ks vs cs).addrs.Nodup) (s : Sh D (h + 1) (.node a ks vs cs)) (srt : Srt (ino (.node a ks vs cs))) (hc : cs[i]? = some c) (hi : i ≤ ks.length) (u : Under ks i key)
    (x : Upd G G' c c') (s' : Sh D h c') (hk : D - 1 ≤ c'.keys.length) (e : ino c' = putL (ino c) key v) :
    Upd G G' (.node a ks vs cs) (.node a ks vs (cs.set i c')) ∧ Sh D (h + 1) (.node a ks vs (cs.set i c')) ∧ ino (.node a ks vs (cs.set i c')) = putL (ino (.node a ks vs cs)) key v ∧ (ino (.node a ks vs (cs.set i c'))).length + (ino c).length = (ino (.node a ks vs cs)).length + (ino c').length := by
  obtain ⟨s1, s2, s3, s4⟩ := s
  have hlt : i < cs.length := by
    by_cases q : i < cs.length
    · exact q
    · rw [List.getElem?_eq_none (by (first | lia | omega))] at hc; cases hc
  have hcs := get_split hc
  refine ⟨?_, ⟨by rw [List.length_set]; exact s1, s2, s3, fun d hd => ?_⟩, put_child s2 s1 hi hc srt u e, ?_⟩
  · have := Upd.child (L := cs.take i) (R := cs.drop (i + 1)) (hcs ▸ hh) (hcs ▸ n) x
    rw [← hcs, ← set_split hlt] at this
    exact this
  · rcases mem_set hd with rfl | q
    · exact ⟨s', hk⟩
    · exact s4 d q
  · rw [ino_set s2 hi hc, ino_at s2 hi hc]
    simp only [List.length_append]; (first | lia | omega)
theorem child_of {D h a i : Nat} {G : Heap} {ks : List Int} {vs : List V} {cs : List Tree} {c : Tree} (hh : Holds G (.node a ks vs cs)) (n : (Tree.node a ks vs cs).addrs.Nodup) (s : Sh D (h + 1) (.node a ks vs cs)) (srt : Srt (ino (.node a ks vs cs))) (hc : cs[i]? = some c) (hi : i ≤ ks.length) :
    Holds G c ∧ c.addrs.Nodup ∧ Srt (ino c) ∧ (ino c).length ≤ (ino (.node a ks vs cs)).length ∧ (∀ b ∈ c.addrs, b ∈ (Tree.node a ks vs cs).addrs) ∧ Sh D h c ∧ D - 1 ≤ c.keys.length := by
  obtain ⟨s1, s2, s3, s4⟩ := s
  have hm := List.mem_of_getElem? hc
  have hcs := get_split hc
  have ea : addrsL cs = addrsL (cs.take i) ++ (c.addrs ++ addrsL (cs.drop (i + 1))) := by
    conv => lhs; rw [hcs]
    rw [addrsL_app]; rfl
  refine ⟨HoldsL.iff.mp hh.2 c hm, ?_, ?_, ?_, fun b hb => ?_, s4 c hm⟩
  · have := (List.nodup_cons.mp n).2
    rw [ea] at this
    exact (List.nodup_append.mp (List.nodup_append.mp this).2.1).1
  · rw [ino_at s2 hi hc] at srt
    exact srt.right.left
  · rw [ino_at s2 hi hc]; simp only [List.length_append]; (first | lia | omega)
  · rw [addrs_node, ea]
    exact .tail _ (List.mem_append.mpr (.inr (List.mem_append.mpr (.inl hb))))
section
variable {T : Nat → Option Fn} (S : Sys T)
theorem spec_row_with (h5 : T 5 = some f_row_with) {H : Heap} {p i : Nat} {xs : List V} {x : V} {Q : PV} (hp : H p = some (.list xs)) (hi : i < xs.length) (hz : xs.length ≤ 100000) (k : ∀ b, H b = none → Q (.ref b) (H.upd b (.list (xs.set i x)))) : S.Φ 5 [.ref p, .int i, x] H Q := by
  have hlim : lim = 1000000 := rfl
  refine S.call h5 rfl ?_
  dsimp only [f_row_with]
  walk_at "m"
  walk_at "n"
  refine v_sliceL hp rfl rfl rfl trivial (Int.natCast_nonneg _) (lim1 (le1 hz)) fun y1 Y1 m1 n1 e1 => ?_
  refine v_allocL fun y2 Y2 m2 _ e2 => ?_
  refine v_addLL (m2 _ _ e1) e2 (add1_ok (le1 hz)) fun y3 Y3 m3 _ e3 => ?_
  have M3 := Heap.le_trans m1 (Heap.le_trans m2 m3)
  refine v_sliceL (M3 _ _ hp) rfl rfl rfl (Int.natCast_nonneg (i + 1)) trivial (lim1 (le1 hz)) fun y4 Y4 m4 _ e4 => ?_
  refine v_addLL (m4 _ _ e3) e4 (add2_ok (le1 hz)) fun y5 Y5 m5 n5 e5 => ?_
  have M4 := Heap.le_trans M3 m4
  have ei : ((i : Int) + 1).toNat = i + 1 := rfl
  have e5 : Y5 y5 = some (.list (xs.set i x)) := by
    rw [e5, cut_to, cut_from, ei, Int.toNat_natCast, set_split hi]; simp
  exact end_new rfl (Heap.le_trans M4 m5) e5 (fresh_le M4 n5) k
noncomputable def Clo (Q : PV) (tv : V) (D : Nat) (cn : Nat) (ra : V) (size : Int) (key : Int) (v : V) (G : Heap) (t : Tree) (h : Nat) : Prop :=
  ∀ t' G', Upd G G' t t' → Sh D h t' → t.keys.length ≤ t'.keys.length → ino t' = putL (ino t) key v →
    ((ino t').length = (ino t).length → Q .none G') ∧ ((ino t').length = (ino t).length + 1 → Q .none (G'.upd cn (.inst 1 [(3, tv), (4, ra), (5, .int (size + 1))])))
theorem Clo.child {Q : PV} {tv : V} {D cn h a i : Nat} {ra v : V} {size key : Int} {G : Heap} {ks : List Int} {vs : List V} {cs : List Tree} {c : Tree} (hh : Holds G (.node a ks vs cs)) (n : (Tree.node a ks vs cs).addrs.Nodup) (s : Sh D (h + 1) (.node a ks vs cs)) (srt : Srt (ino (.node a ks vs cs))) (hc : cs[i]? = some c) (hi : i ≤ ks.length) (u : Under ks i key)
    (k : Clo Q tv D cn ra size key v G (.node a ks vs cs) (h + 1)) : Clo Q tv D cn ra size key v G c h := by
  intro c' G' x s' hk e
  obtain ⟨_, _, _, _, _, _, hm⟩ := child_of hh n s srt hc hi
  obtain ⟨d1, d2, d3, d4⟩ := descend hh n s srt hc hi u x s' (Nat.le_trans hm hk) e
  obtain ⟨k1, k2⟩ := k _ _ d1 d2 (Nat.le_refl _) d3
  exact ⟨fun q => k1 (by (first | lia | omega)), fun q => k2 (by (first | lia | omega))⟩
theorem Clo.trans {Q : PV} {tv : V} {D cn h : Nat} {ra v : V} {size key : Int} {G G1 : Heap} {t t1 : Tree} (x : Upd G G1 t t1) (e : ino t1 = ino t) (hl : t.keys.length ≤ t1.keys.length) (k : Clo Q tv D cn ra size key v G t h) : Clo Q tv D cn ra size key v G1 t1 h := by
  intro t' G' y s' hk e'
  have := k t' G' (x.trans y) s' (Nat.le_trans hl hk) (by rw [e', e])
  rw [e]; exact this
end
end ML
namespace ML
section
variable {T : Nat → Option Fn} (S : Sys T) {H : Heap}
theorem at_k {a : Nat} {ks : List Int} {vs cs : List V} {Q : V → Prop} (n : NodeAt H a ks vs cs) (k : ∀ p, H p = some (.list (ks.map V.int)) → Q (.ref p)) : attrW (.ref a) 0 H Q := by
  refine absG fun Cg hCg => ?_
  obtain ⟨p, _, _, h1, h2, _, _⟩ := n
  refine hCg ?_; clear hCg
  exact v_attr h1 rfl (k p h2)
theorem at_v {a : Nat} {ks : List Int} {vs cs : List V} {Q : V → Prop} (n : NodeAt H a ks vs cs) (k : ∀ p, H p = some (.list vs) → Q (.ref p)) : attrW (.ref a) 1 H Q := by
  refine absG fun Cg hCg => ?_
  obtain ⟨_, p, _, h1, _, h2, _⟩ := n
  refine hCg ?_; clear hCg
  exact v_attr h1 rfl (k p h2)
theorem at_c {a : Nat} {ks : List Int} {vs cs : List V} {Q : V → Prop} (n : NodeAt H a ks vs cs) (k : ∀ p, H p = some (.list cs) → Q (.ref p)) : attrW (.ref a) 2 H Q := by
  refine absG fun Cg hCg => ?_
  obtain ⟨_, _, p, h1, _, _, h2⟩ := n
  refine hCg ?_; clear hCg
  exact v_attr h1 rfl (k p h2)
theorem at_inst {a f : Nat} {ks : List Int} {vs cs : List V} {P : Prop} (n : NodeAt H a ks vs cs) (hf : methCls f = 0) (k : P) : isInst H (methCls f) (.ref a) ∧ P := by
  refine absG fun Cg hCg => ?_
  obtain ⟨_, _, _, h1, _⟩ := n
  refine hCg ?_; clear hCg
  rw [hf]
  exact v_isInst h1 k
theorem NodeAt.i {a : Nat} {ks : List Int} {vs cs : List V} (n : NodeAt H a ks vs cs) : Insts [a] H := fun b hb => by
  refine absG fun Cg hCg => ?_
  obtain ⟨_, _, _, h1, _⟩ := n
  refine hCg ?_; clear hCg
  rw [List.mem_singleton.mp hb]; exact ⟨_, _, h1⟩
theorem NodeAt.past {a b : Nat} {G : Heap} {ks ks' : List Int} {vs cs vs' cs' : List V} (n : NodeAt H a ks vs cs) (m : NodeAt H b ks' vs' cs') (f : Frame [b] H G) (hn : a ≠ b) : NodeAt G a ks vs cs := n.frame f m.i (fun q => hn (List.mem_singleton.mp q))
theorem Frame.leL {A : List Nat} {G G1 : Heap} (l : H.le G) (f : Frame A G G1) : Frame A H G1 := fun b o e hb => f b o (l _ _ e) hb
theorem Frame.join {A B C : List Nat} {G G1 : Heap} (f : Frame A H G) (g : Frame B G G1) (h1 : ∀ x ∈ A, x ∈ C) (h2 : ∀ x ∈ B, x ∈ C) : Frame C H G1 := fun b o e hb => g b o (f b o e fun q => hb (h1 b q)) fun q => hb (h2 b q)
theorem Frame.lst {a p : Nat} {G : Heap} {ks : List Int} {vs cs xs : List V} (f : Frame [a] H G) (n : NodeAt H a ks vs cs) (hp : H p = some (.list xs)) : G p = some (.list xs) := f _ _ hp fun q => by
  refine absG fun Cg hCg => ?_
  obtain ⟨_, _, e⟩ := n.i p q
  refine hCg ?_; clear hCg
  rw [hp] at e; cases e
theorem lay_node (h4 : T 4 = some f_lay) {a p q r : Nat} {ks ks' : List Int} {vs cs vs' cs' : List V} {Q : PV} (n : NodeAt H a ks vs cs) (hp : H p = some (.list (ks'.map V.int))) (hq : H q = some (.list vs')) (hr : H r = some (.list cs'))
    (k : ∀ G, NodeAt G a ks' vs' cs' → Frame [a] H G → Q .none G) : S.Φ 4 [.ref a, .ref p, .ref q, .ref r] H Q := by
  refine absG fun Cg hCg => ?_
  obtain ⟨_, _, _, h1, _⟩ := n
  refine hCg ?_; clear hCg
  refine spec_lay S h4 h1 (k _ ⟨p, q, r, upd_self, ?_, ?_, ?_⟩ fun b o e hb => ?_)
  · rw [upd_ne (fun e => by rw [e, h1] at hp; cases hp)]; exact hp
  · rw [upd_ne (fun e => by rw [e, h1] at hq; cases hq)]; exact hq
  · rw [upd_ne (fun e => by rw [e, h1] at hr; cases hr)]; exact hr
  · rw [upd_ne (fun q => hb (by rw [q]; exact .head _))]; exact e
noncomputable def del {α : Type} (l : List α) (i : Nat) : List α := l.take i ++ l.drop (i + 1)
theorem del_map {α β : Type} {f : α → β} {l : List α} {i : Nat} : (del l i).map f = del (l.map f) i := by unfold del; rw [List.map_append, List.map_take, List.map_drop]
theorem spec_row_without (h6 : T 6 = some f_row_without) {p i : Nat} {xs : List V} {Q : PV} (hp : H p = some (.list xs)) (hz : xs.length ≤ 100001) (k : ∀ b G, H.le G → H b = none → G b = some (.list (del xs i)) → Q (.ref b) G) : S.Φ 6 [.ref p, .int i] H Q := by
  refine S.call h6 rfl ?_
  dsimp only [f_row_without]
  walk_at "m"
  walk_at "n"
  refine v_sliceL hp rfl rfl rfl trivial (Int.natCast_nonneg _) (lim1 hz) fun y1 Y1 m1 n1 e1 => ?_
  refine v_sliceL (m1 _ _ hp) rfl rfl rfl (Int.natCast_nonneg (i + 1)) trivial (lim1 hz) fun y2 Y2 m2 _ e2 => ?_
  have hl : (cut xs none (some (i : Int))).length + (cut xs (some ((i : Int) + 1)) none).length ≤ lim := by
    rw [cut_to, cut_from, List.length_drop]
    have := List.length_take_le' (i : Int).toNat xs
    show _ ≤ 1000000
    (first | lia | omega)
  refine v_addLL (m2 _ _ e1) e2 hl fun y3 Y3 m3 n3 e3 => ?_
  exact end_ret rfl (k y3 Y3 (Heap.le_trans m1 (Heap.le_trans m2 m3)) (fresh_le (Heap.le_trans m1 m2) n3) e3)
theorem row_with2 (h5 : T 5 = some f_row_with) {p i : Nat} {xs : List V} {x : V} {Q : PV} (hp : H p = some (.list xs)) (hi : i < xs.length) (hz : xs.length ≤ 100000) (k : ∀ b G, H.le G → G b = some (.list (xs.set i x)) → Q (.ref b) G) : S.Φ 5 [.ref p, .int i, x] H Q :=
  spec_row_with S h5 hp hi hz fun b nb => k b _ (Heap.le_upd nb) upd_self
theorem zadd {a b : Nat} (h1 : a ≤ 300000) (h2 : b ≤ 300000) : a + b ≤ lim := Nat.le_trans (Nat.add_le_add h1 h2) (by decide)
theorem zmap {ks : List Int} (h : ks.length ≤ 100000) : (ks.map V.int).length ≤ 300000 := by rw [List.length_map]; exact Nat.le_trans h (by decide)
theorem spec_merge (h4 : T 4 = some f_lay) (h6 : T 6 = some f_row_without) (h12 : T 12 = some f_merge_children) {self : V} {a b e i : Nat} {ks kb ke : List Int} {vs vb ve cs cb ce : List V} {k : Int} {v : V} {Q : PV} (na : NodeAt H a ks vs cs) (nb : NodeAt H b kb vb cb) (ne : NodeAt H e ke ve ce)
    (ci : cs[i]? = some (.ref b)) (ci1 : cs[i + 1]? = some (.ref e)) (hk : ks[i]? = some k) (hv : vs[i]? = some v) (hab : a ≠ b) (hi : i ≤ 100000) (z1 : ks.length ≤ 100000) (z2 : vs.length ≤ 100000) (z3 : cs.length ≤ 100001) (z4 : kb.length ≤ 100000) (z5 : vb.length ≤ 100000) (z6 : cb.length ≤ 100001) (z7 : ke.length ≤ 100000) (z8 : ve.length ≤ 100000) (z9 : ce.length ≤ 100001)
    (q : ∀ G, NodeAt G a (del ks i) (del vs i) (del cs (i + 1)) → NodeAt G b (kb ++ [k] ++ ke) (vb ++ [v] ++ ve) (cb ++ ce) → Frame [a, b] H G → Q .none G) : S.Φ 12 [self, .ref a, .int i] H Q := by
  refine S.call h12 rfl ?_
  dsimp only [f_merge_children]
  walk_at "m"
  walk_at "n"
  refine at_c na fun p hp => ?_
  refine v_idxN hp rfl (Nat.le_trans hi (by decide)) ci ?_
  walk_at "n"
  refine at_c na fun p hp => ?_
  refine v_idxN (k := i + 1) hp rfl (Nat.le_trans (Nat.succ_le_succ hi) (by decide)) ci1 ?_
  walk_at "n"
  refine at_inst nb rfl (at_k nb fun p1 e1 => at_k na fun p2 e2 => ?_)
  refine v_idxN (v := .int k) e2 rfl (Nat.le_trans hi (by decide)) (by rw [List.getElem?_map, hk]; rfl) ?_
  refine v_allocL fun y1 Y1 m1 _ g1 => ?_
  refine v_addLL (m1 _ _ e1) g1 (zadd (zmap z4) (by simp)) fun y2 Y2 m2 _ g2 => ?_
  have M2 := Heap.le_trans m1 m2
  refine at_k (ne.le M2) fun p3 e3 => ?_
  refine v_addLL g2 e3 (zadd (by rw [List.length_append, List.length_map]; simp only [List.length_cons, List.length_nil]; (first | lia | omega)) (zmap z7)) fun y3 Y3 m3 _ g3 => ?_
  have M3 := Heap.le_trans M2 m3
  clear g1 g2 e1 e2 e3 m1 m2 m3 M2
  refine at_v (nb.le M3) fun p1 e1 => at_v (na.le M3) fun p2 e2 => ?_
  refine v_idxN e2 rfl (Nat.le_trans hi (by decide)) hv ?_
  refine v_allocL fun y4 Y4 m4 _ g4 => ?_
  refine v_addLL (m4 _ _ e1) g4 (zadd (Nat.le_trans z5 (by decide)) (by simp)) fun y5 Y5 m5 _ g5 => ?_
  have M5 := Heap.le_trans M3 (Heap.le_trans m4 m5)
  have g3 := m5 _ _ (m4 _ _ g3)
  refine at_v (ne.le M5) fun p3 e3 => ?_
  refine v_addLL g5 e3 (zadd (by rw [List.length_append]; simp only [List.length_cons, List.length_nil]; (first | lia | omega)) (Nat.le_trans z8 (by decide))) fun y6 Y6 m6 _ g6 => ?_
  have M6 := Heap.le_trans M5 m6
  have g3 := m6 _ _ g3
  clear g4 g5 e1 e2 e3 m4 m5 m6 M5 M3
  refine at_c (nb.le M6) fun p1 e1 => at_c (ne.le M6) fun p2 e2 => ?_
  refine v_addLL e1 e2 (zadd (Nat.le_trans z6 (by decide)) (Nat.le_trans z9 (by decide))) fun y7 Y7 m7 _ g7 => ?_
  have M7 := Heap.le_trans M6 m7
  have g3 := m7 _ _ g3
  have g6 := m7 _ _ g6
  walk_at "m"
  refine lay_node S h4 (ks' := kb ++ [k] ++ ke) (nb.le M7) (by rw [g3]; simp) g6 g7 fun G1 nb1 f1 => ?_
  walk_at "m"
  have na1 := (na.le M7).past (nb.le M7) f1 hab
  clear g3 g6 g7 e1 e2 m7 M6
  walk_at "n"
  refine at_inst na1 rfl (at_k na1 fun p1 e1 => ?_)
  refine spec_row_without S h6 e1 (by rw [List.length_map]; exact le1 z1) fun y1 Y1 m1 _ g1 => ?_
  refine at_v (na1.le m1) fun p2 e2 => ?_
  refine spec_row_without S h6 e2 (le1 z2) fun y2 Y2 m2 _ g2 => ?_
  have M2 := Heap.le_trans m1 m2
  refine at_c (na1.le M2) fun p3 e3 => ?_
  refine spec_row_without S h6 (i := i + 1) e3 z3 fun y3 Y3 m3 _ g3 => ?_
  have M3 := Heap.le_trans M2 m3
  walk_at "m"
  refine lay_node S h4 (ks' := del ks i) (na1.le M3) (by rw [m3 _ _ (m2 _ _ g1), del_map]) (m3 _ _ g2) g3 fun G2 na2 f2 => ?_
  walk_at "m"
  refine n_nil (end_ret rfl (q G2 na2 ((nb1.le M3).past (na1.le M3) f2 hab.symm) ?_))
  exact (f1.leL M7).join (f2.leL M3) (fun x hx => by rw [List.mem_singleton.mp hx]; exact .tail _ (.head _)) (fun x hx => by rw [List.mem_singleton.mp hx]; exact .head _)
theorem spec_borrowL (h4 : T 4 = some f_lay) (h5 : T 5 = some f_row_with) (h13 : T 13 = some f_borrow_from_left) {self : V} {a l c j n : Nat} {ks kl kc : List Int} {vs vl vc cs cl cc : List V} {k mk : Int} {v mv : V} {Q : PV} (na : NodeAt H a ks vs cs) (nl : NodeAt H l kl vl cl) (nc : NodeAt H c kc vc cc)
    (cj : cs[j]? = some (.ref l)) (cj1 : cs[j + 1]? = some (.ref c)) (hk : ks[j]? = some k) (hv : vs[j]? = some v) (hl : kl.length = n + 1) (hmk : kl[n]? = some mk) (hmv : vl[n]? = some mv) (hal : a ≠ l) (hac : a ≠ c) (hlc : l ≠ c)
    (z1 : ks.length ≤ 100000) (z2 : vs.length ≤ 100000) (z3 : cs.length ≤ 100001) (z4 : kl.length ≤ 100000) (z5 : vl.length ≤ 100000) (z6 : cl.length ≤ 100001) (z7 : kc.length ≤ 100000) (z8 : vc.length ≤ 100000) (z9 : cc.length ≤ 100001)
    (q : ∀ G, NodeAt G a (ks.set j mk) (vs.set j mv) cs → NodeAt G l (kl.take n) (vl.take n) (cl.take (n + 1)) → NodeAt G c (k :: kc) (v :: vc) (cl.drop (n + 1) ++ cc) → Frame [a, l, c] H G → Q .none G) : S.Φ 13 [self, .ref a, .int ((j : Int) + 1)] H Q := by
  have hj : j ≤ 100000 := Nat.le_trans (Nat.le_of_lt (lt_of_get hk)) z1
  have ej : ((j : Int) + 1) - 1 = j := by (first | lia | omega)
  have hn : n ≤ 100000 := by (first | lia | omega)
  have en : ((n + 1 : Nat) : Int) - 1 = n := by (first | lia | omega)
  refine S.call h13 rfl ?_
  dsimp only [f_borrow_from_left]
  walk_at "m"
  walk_at "n"
  refine at_c na fun p hp => ?_
  rw [ej]
  refine v_idxN hp rfl (Nat.le_trans hj (by decide)) cj ?_
  walk_at "n"
  refine at_c na fun p hp => ?_
  refine v_idxN (k := j + 1) hp rfl (Nat.le_trans (Nat.succ_le_succ hj) (by decide)) cj1 ?_
  walk_at "n"
  refine at_k nl fun p hp => v_len hp rfl ?_
  walk_at "m"
  rw [List.length_map, hl, en]
  walk_at "n"
  refine at_c nl fun p hp => ?_
  refine v_sliceL (l := some ((n : Int) + 1)) hp rfl rfl rfl (Int.natCast_nonneg (n + 1)) trivial (lim1 z6) fun y0 Y0 m0 _ g0 => ?_
  have g0 : Y0 y0 = some (.list (cl.drop (n + 1))) := g0
  walk_at "n"
  refine at_inst (nc.le m0) rfl (at_k (na.le m0) fun p1 e1 => ?_)
  rw [ej]
  refine v_idxN (v := .int k) e1 rfl (Nat.le_trans hj (by decide)) (by rw [List.getElem?_map, hk]; rfl) ?_
  refine v_allocL fun y1 Y1 m1 _ g1 => ?_
  have M1 := Heap.le_trans m0 m1
  refine at_k (nc.le M1) fun p2 e2 => ?_
  refine v_addLL g1 e2 (zadd (by simp) (zmap z7)) fun y2 Y2 m2 _ g2 => ?_
  have M2 := Heap.le_trans M1 m2
  refine at_v (na.le M2) fun p3 e3 => ?_
  refine v_idxN e3 rfl (Nat.le_trans hj (by decide)) hv ?_
  refine v_allocL fun y3 Y3 m3 _ g3 => ?_
  have M3 := Heap.le_trans M2 m3
  refine at_v (nc.le M3) fun p4 e4 => ?_
  refine v_addLL g3 e4 (zadd (by simp) (Nat.le_trans z8 (by decide))) fun y4 Y4 m4 _ g4 => ?_
  have M4 := Heap.le_trans M3 m4
  have g0 := m4 _ _ (m3 _ _ (m2 _ _ (m1 _ _ g0)))
  have g2 := m4 _ _ (m3 _ _ g2)
  clear e1 e2 e3 e4 g1 g3 m0 m1 m2 m3 m4 M1 M2 M3
  refine at_c (nc.le M4) fun p5 e5 => ?_
  refine v_addLL g0 e5 (zadd (by rw [List.length_drop]; (first | lia | omega)) (Nat.le_trans z9 (by decide))) fun y5 Y5 m5 _ g5 => ?_
  have M5 := Heap.le_trans M4 m5
  walk_at "m"
  refine lay_node S h4 (ks' := k :: kc) (nc.le M5) (by rw [m5 _ _ g2]; rfl) (m5 _ _ g4) g5 fun G1 nc1 f1 => ?_
  walk_at "m"
  have na1 := (na.le M5).past (nc.le M5) f1 hac
  have nl1 := (nl.le M5).past (nc.le M5) f1 hlc
  clear g2 g4 g5 g0 e5 m5 M4
  walk_at "n"
  refine at_inst na1 rfl (at_k na1 fun p1 e1 => at_k nl1 fun p2 e2 => ?_)
  walk_at "m"
  rw [ej]
  refine v_idxN (v := .int mk) e2 rfl (Nat.le_trans hn (by decide)) (by rw [List.getElem?_map, hmk]; rfl) ?_
  refine row_with2 S h5 (i := j) e1 (by rw [List.length_map]; exact lt_of_get hk) (by rw [List.length_map]; exact z1) fun y1 Y1 m1 g1 => ?_
  refine at_v (na1.le m1) fun p3 e3 => at_v (nl1.le m1) fun p4 e4 => ?_
  refine v_idxN e4 rfl (Nat.le_trans hn (by decide)) hmv ?_
  refine row_with2 S h5 (i := j) e3 (lt_of_get hv) z2 fun y2 Y2 m2 g2 => ?_
  have M2 := Heap.le_trans m1 m2
  refine at_c (na1.le M2) fun p5 e5 => ?_
  refine v_sliceL e5 rfl rfl rfl trivial trivial (lim1 z3) fun y3 Y3 m3 _ g3 => ?_
  have g3 : Y3 y3 = some (.list cs) := g3
  have M3 := Heap.le_trans M2 m3
  walk_at "m"
  refine lay_node S h4 (ks' := ks.set j mk) (na1.le M3) (by rw [m3 _ _ (m2 _ _ g1), List.map_set]) (m3 _ _ g2) g3 fun G2 na2 f2 => ?_
  walk_at "m"
  have nl2 := (nl1.le M3).past (na1.le M3) f2 hal.symm
  have nc2 := (nc1.le M3).past (na1.le M3) f2 hac.symm
  clear e1 e2 e3 e4 e5 g1 g2 g3 m1 m2 m3 M2
  walk_at "n"
  refine at_inst nl2 rfl (at_k nl2 fun p1 e1 => ?_)
  refine v_sliceL (h' := some (n : Int)) e1 rfl rfl rfl trivial (Int.natCast_nonneg _) (lim1 (by rw [List.length_map]; exact le1 z4)) fun y1 Y1 m1 _ g1 => ?_
  refine at_v (nl2.le m1) fun p2 e2 => ?_
  refine v_sliceL (h' := some (n : Int)) e2 rfl rfl rfl trivial (Int.natCast_nonneg _) (lim1 (le1 z5)) fun y2 Y2 m2 _ g2 => ?_
  have N2 := Heap.le_trans m1 m2
  refine at_c (nl2.le N2) fun p3 e3 => ?_
  refine v_sliceL (h' := some ((n : Int) + 1)) e3 rfl rfl rfl trivial (Int.natCast_nonneg (n + 1)) (lim1 z6) fun y3 Y3 m3 _ g3 => ?_
  have N3 := Heap.le_trans N2 m3
  walk_at "m"
  refine lay_node S h4 (ks' := kl.take n) (nl2.le N3) (by rw [m3 _ _ (m2 _ _ g1), cut_to, Int.toNat_natCast, List.map_take]) (by rw [m3 _ _ g2, cut_to, Int.toNat_natCast]) (cs' := cl.take (n + 1)) g3 fun G3 nl3 f3 => ?_
  walk_at "m"
  refine n_nil (end_ret rfl (q G3 ((na2.le N3).past (nl2.le N3) f3 hal) nl3 ((nc2.le N3).past (nl2.le N3) f3 hlc.symm) ?_))
  refine (Frame.join (C := [a, l, c]) (f1.leL M5) (f2.leL M3) (fun x hx => ?_) fun x hx => ?_).join (f3.leL N3) (fun x hx => hx) fun x hx => ?_
  · rw [List.mem_singleton.mp hx]; exact .tail _ (.tail _ (.head _))
  · rw [List.mem_singleton.mp hx]; exact .head _
  · rw [List.mem_singleton.mp hx]; exact .tail _ (.head _)
theorem spec_borrowR (h4 : T 4 = some f_lay) (h5 : T 5 = some f_row_with) (h14 : T 14 = some f_borrow_from_right) {self : V} {a c r i : Nat} {ks kc kr : List Int} {vs vc vr cs cc cr : List V} {k mk : Int} {v mv : V} {Q : PV} (na : NodeAt H a ks vs cs) (nc : NodeAt H c kc vc cc) (nr : NodeAt H r kr vr cr)
    (ci : cs[i]? = some (.ref c)) (ci1 : cs[i + 1]? = some (.ref r)) (hk : ks[i]? = some k) (hv : vs[i]? = some v) (hmk : kr[0]? = some mk) (hmv : vr[0]? = some mv) (hac : a ≠ c) (har : a ≠ r) (hcr : c ≠ r)
    (z1 : ks.length ≤ 100000) (z2 : vs.length ≤ 100000) (z3 : cs.length ≤ 100001) (z4 : kr.length ≤ 100000) (z5 : vr.length ≤ 100000) (z6 : cr.length ≤ 100001) (z7 : kc.length ≤ 100000) (z8 : vc.length ≤ 100000) (z9 : cc.length ≤ 100001)
    (q : ∀ G, NodeAt G a (ks.set i mk) (vs.set i mv) cs → NodeAt G c (kc ++ [k]) (vc ++ [v]) (cc ++ cr.take 1) → NodeAt G r (kr.drop 1) (vr.drop 1) (cr.drop 1) → Frame [a, c, r] H G → Q .none G) : S.Φ 14 [self, .ref a, .int i] H Q := by
  have hi : i ≤ 100000 := Nat.le_trans (Nat.le_of_lt (lt_of_get hk)) z1
  refine S.call h14 rfl ?_
  dsimp only [f_borrow_from_right]
  walk_at "m"
  walk_at "n"
  refine at_c na fun p hp => ?_
  refine v_idxN hp rfl (Nat.le_trans hi (by decide)) ci ?_
  walk_at "n"
  refine at_c na fun p hp => ?_
  refine v_idxN (k := i + 1) hp rfl (Nat.le_trans (Nat.succ_le_succ hi) (by decide)) ci1 ?_
  walk_at "n"
  refine at_c nr fun p hp => ?_
  refine v_sliceL (h' := some 1) hp rfl rfl rfl trivial (show (0 : Int) ≤ 1 by decide) (lim1 z6) fun y0 Y0 m0 _ g0 => ?_
  have g0 : Y0 y0 = some (.list (cr.take 1)) := g0
  walk_at "n"
  refine at_inst (nc.le m0) rfl (at_k (nc.le m0) fun p1 e1 => at_k (na.le m0) fun p2 e2 => ?_)
  refine v_idxN (v := .int k) e2 rfl (Nat.le_trans hi (by decide)) (by rw [List.getElem?_map, hk]; rfl) ?_
  refine v_allocL fun y1 Y1 m1 _ g1 => ?_
  refine v_addLL (m1 _ _ e1) g1 (zadd (zmap z7) (by simp)) fun y2 Y2 m2 _ g2 => ?_
  have M2 := Heap.le_trans m0 (Heap.le_trans m1 m2)
  refine at_v (nc.le M2) fun p3 e3 => at_v (na.le M2) fun p4 e4 => ?_
  refine v_idxN e4 rfl (Nat.le_trans hi (by decide)) hv ?_
  refine v_allocL fun y3 Y3 m3 _ g3 => ?_
  refine v_addLL (m3 _ _ e3) g3 (zadd (Nat.le_trans z8 (by decide)) (by simp)) fun y4 Y4 m4 _ g4 => ?_
  have M4 := Heap.le_trans M2 (Heap.le_trans m3 m4)
  have g0 := m4 _ _ (m3 _ _ (m2 _ _ (m1 _ _ g0)))
  have g2 := m4 _ _ (m3 _ _ g2)
  clear e1 e2 e3 e4 g1 g3 m0 m1 m2 m3 m4 M2
  refine at_c (nc.le M4) fun p5 e5 => ?_
  refine v_addLL e5 g0 (zadd (Nat.le_trans z9 (by decide)) (by rw [List.length_take]; (first | lia | omega))) fun y5 Y5 m5 _ g5 => ?_
  have M5 := Heap.le_trans M4 m5
  walk_at "m"
  refine lay_node S h4 (ks' := kc ++ [k]) (nc.le M5) (by rw [m5 _ _ g2]; simp) (m5 _ _ g4) g5 fun G1 nc1 f1 => ?_
  walk_at "m"
  have na1 := (na.le M5).past (nc.le M5) f1 hac
  have nr1 := (nr.le M5).past (nc.le M5) f1 hcr.symm
  clear g2 g4 g5 g0 e5 m5 M4
  walk_at "n"
  refine at_inst na1 rfl (at_k na1 fun p1 e1 => at_k nr1 fun p2 e2 => ?_)
  refine v_idxN (k := 0) (v := .int mk) e2 rfl (by decide) (by rw [List.getElem?_map, hmk]; rfl) ?_
  refine row_with2 S h5 (i := i) e1 (by rw [List.length_map]; exact lt_of_get hk) (by rw [List.length_map]; exact z1) fun y1 Y1 m1 g1 => ?_
  refine at_v (na1.le m1) fun p3 e3 => at_v (nr1.le m1) fun p4 e4 => ?_
  refine v_idxN (k := 0) e4 rfl (by decide) hmv ?_
  refine row_with2 S h5 (i := i) e3 (lt_of_get hv) z2 fun y2 Y2 m2 g2 => ?_
  have M2 := Heap.le_trans m1 m2
  refine at_c (na1.le M2) fun p5 e5 => ?_
  refine v_sliceL e5 rfl rfl rfl trivial trivial (lim1 z3) fun y3 Y3 m3 _ g3 => ?_
  have g3 : Y3 y3 = some (.list cs) := g3
  have M3 := Heap.le_trans M2 m3
  walk_at "m"
  refine lay_node S h4 (ks' := ks.set i mk) (na1.le M3) (by rw [m3 _ _ (m2 _ _ g1), List.map_set]) (m3 _ _ g2) g3 fun G2 na2 f2 => ?_
  walk_at "m"
  have nr2 := (nr1.le M3).past (na1.le M3) f2 har.symm
  have nc2 := (nc1.le M3).past (na1.le M3) f2 hac.symm
  clear e1 e2 e3 e4 e5 g1 g2 g3 m1 m2 m3 M2
  walk_at "n"
  refine at_inst nr2 rfl (at_k nr2 fun p1 e1 => ?_)
  refine v_sliceL (l := some 1) e1 rfl rfl rfl (show (0 : Int) ≤ 1 by decide) trivial (lim1 (by rw [List.length_map]; exact le1 z4)) fun y1 Y1 m1 _ g1 => ?_
  refine at_v (nr2.le m1) fun p2 e2 => ?_
  refine v_sliceL (l := some 1) e2 rfl rfl rfl (show (0 : Int) ≤ 1 by decide) trivial (lim1 (le1 z5)) fun y2 Y2 m2 _ g2 => ?_
  have N2 := Heap.le_trans m1 m2
  refine at_c (nr2.le N2) fun p3 e3 => ?_
  refine v_sliceL (l := some 1) e3 rfl rfl rfl (show (0 : Int) ≤ 1 by decide) trivial (lim1 z6) fun y3 Y3 m3 _ g3 => ?_
  have N3 := Heap.le_trans N2 m3
  walk_at "m"
  refine lay_node S h4 (ks' := kr.drop 1) (vs' := vr.drop 1) (cs' := cr.drop 1) (nr2.le N3) (by rw [m3 _ _ (m2 _ _ g1), List.map_drop]; rfl) (m3 _ _ g2) g3 fun G3 nr3 f3 => ?_
  walk_at "m"
  refine n_nil (end_ret rfl (q G3 ((na2.le N3).past (nr2.le N3) f3 har) ((nc2.le N3).past (nr2.le N3) f3 hcr) nr3 ?_))
  refine (Frame.join (C := [a, c, r]) (f1.leL M5) (f2.leL M3) (fun x hx => ?_) fun x hx => ?_).join (f3.leL N3) (fun x hx => hx) fun x hx => ?_
  · rw [List.mem_singleton.mp hx]; exact .tail _ (.head _)
  · rw [List.mem_singleton.mp hx]; exact .head _
  · rw [List.mem_singleton.mp hx]; exact .tail _ (.tail _ (.head _))
end
end ML
namespace ML
namespace L0016
noncomputable def f__law_node : Fn := ⟨4, 4, [
  .ret (some (.new 0 [(.comp (.bop .add (.var 2) (.var 4)) 1 (.of (.var 0)) none), (.comp (.bop .add (.var 3) (.bop .mul (.var 4) (.var 4))) 1 (.of (.var 0)) none), (.var 1)]))]⟩
noncomputable def leafE : E := .call 51 [(.prim .range [(.bop .mul (.var 7) (.var 5)), (.bop .add (.bop .mul (.var 7) (.var 5)) (.var 2))]), (.list []), (.var 3), (.var 4)]
noncomputable def f__law_child : Fn := ⟨5, 7, [
  .assign 5 (.bop .add (.var 2) (.lit (.int 1))),
  .assign 6 (.list []),
  .ite (.cmp .gt (.var 2) (.lit (.int 0))) [
    .assign 6 (.comp leafE 1 (.rng2 (.var 0) (.bop .add (.bop .add (.var 0) (.var 1)) (.lit (.int 1)))) none)] [],
  .ret (some (.call 51 [(.comp (.bop .add (.bop .mul (.var 7) (.var 5)) (.var 2)) 1 (.rng2 (.var 0) (.bop .add (.var 0) (.var 1))) none), (.var 6), (.var 3), (.var 4)]))]⟩
noncomputable def bodyP : List ML.S := [
    .ite (.cmp .gt (.var 6) (.lit (.int 0))) [
      .append (.var 4) (.bop .add (.bop .mul (.bop .sub (.var 6) (.lit (.int 1))) (.bop .add (.var 1) (.lit (.int 1)))) (.var 1))] [],
    .append (.var 5) (.call 52 [(.var 6), (.var 7), (.var 1), (.var 2), (.var 3)]),
    .assign 6 (.bop .add (.bop .add (.var 6) (.var 7)) (.lit (.int 1)))]
noncomputable def f__law_parent : Fn := ⟨4, 8, [
  .assign 4 (.list []),
  .assign 5 (.list []),
  .assign 6 (.lit (.int 0)),
  .for1 [7] (.of (.var 0)) bodyP,
  .ret (some (.call 51 [(.var 4), (.var 5), (.var 2), (.var 3)]))]⟩
noncomputable def bodyV : List ML.S := [
    .append (.var 1) (.tup [(.attr (.var 2) 0), (.attr (.var 2) 1), (.comp (.tup [(.attr (.var 3) 0), (.attr (.var 3) 1), (.prim .len [(.attr (.var 3) 2)])]) 1 (.of (.attr (.var 2) 2)) none)])]
noncomputable def f__law_view : Fn := ⟨1, 3, [
  .assign 1 (.list []),
  .for1 [2] (.of (.bop .add (.list [(.var 0)]) (.attr (.var 0) 2))) bodyV,
  .ret (some (.var 1))]⟩
noncomputable def refs (l : List Nat) : List V := l.map V.ref
theorem refs_get {l : List Nat} {i a : Nat} (h : l[i]? = some a) : (refs l)[i]? = some (.ref a) := by rw [refs, List.getElem?_map, h]; rfl
theorem refs_len {l : List Nat} : (refs l).length = l.length := by unfold refs; rw [List.length_map]
theorem refs_app {l m : List Nat} : refs (l ++ m) = refs l ++ refs m := by unfold refs; rw [List.map_append]
theorem NodeAt_le {G G' : Heap} {a : Nat} {ks : List Int} {vs cs : List V} (n : NodeAt G a ks vs cs) (L : G.le G') : NodeAt G' a ks vs cs := let ⟨p, q, r, h1, h2, h3, h4⟩ := n; ⟨p, q, r, L _ _ h1, L _ _ h2, L _ _ h3, L _ _ h4⟩
noncomputable def nats (ps : List Nat) : List V := ps.map fun n : Nat => V.int (n : Int)
theorem nats_len {ps : List Nat} : (nats ps).length = ps.length := by unfold nats; rw [List.length_map]
theorem nats_mem {ps : List Nat} {x : V} (h : x ∈ nats ps) : ∃ n, n ∈ ps ∧ x = .int (n : Int) := by
  unfold nats at h
  obtain ⟨n, hn, rfl⟩ := List.mem_map.mp h
  exact ⟨n, hn, rfl⟩
theorem nats_app {l m : List Nat} : nats (l ++ m) = nats l ++ nats m := by unfold nats; rw [List.map_append]
noncomputable def kr (base : Int) (ps : List Nat) : List Int := ps.map fun n : Nat => base + n
noncomputable def vr (top : Int) (ps : List Nat) : List Int := ps.map fun n : Nat => top + n * n
noncomputable def keyV (base : Int) : V → V
  | .int i => .int (base + i)
  | v => v
noncomputable def valV (top : Int) : V → V
  | .int i => .int (top + i * i)
  | v => v
theorem keyV_map {base : Int} {ps : List Nat} : (nats ps).map (keyV base) = (kr base ps).map V.int := by unfold nats kr; rw [List.map_map, List.map_map]; rfl
theorem valV_map {top : Int} {ps : List Nat} : (nats ps).map (valV top) = (vr top ps).map V.int := by unfold nats vr; rw [List.map_map, List.map_map]; rfl
noncomputable def off (G H : Heap) : Heap := fun b => match H b with | some _ => none | none => G b
theorem off_le {G H : Heap} : (off G H).le G := fun b o e => by
  unfold off at e
  split at e
  · cases e
  · exact e
theorem off_new {G H : Heap} {b : Nat} (h : H b = none) : off G H b = G b := by unfold off; rw [h]
theorem off_at {G H : Heap} {b : Nat} {o : O} (h : H b = none) (e : G b = some o) : off G H b = some o := (off_new h).trans e
theorem off_none {G H : Heap} {b : Nat} {o : O} (h : off G H b = some o) : H b = none := by
  unfold off at h
  split at h
  · cases h
  · assumption
theorem off_mono {G G' H : Heap} (l : G.le G') : (off G H).le (off G' H) := fun b o e => by
  have := off_none e
  rw [off_new this] at e ⊢
  exact l _ _ e
theorem off_dom {G H H' : Heap} (h : ∀ b, H' b = none → H b = none) : (off G H').le (off G H) := fun b o e => by
  have := off_none e
  rw [off_new this] at e
  rw [off_new (h b this)]
  exact e
theorem off_upd {G H : Heap} {p : Nat} {o x : O} (h : H p = some x) : (off G H).le (off (G.upd p o) H) := fun b y e => by
  have := off_none e
  rw [off_new this] at e ⊢
  rw [upd_ne (fun q => by rw [q, h] at this; cases this)]
  exact e
theorem v_itr {H : Heap} {p : Nat} {o : O} {xs : List V} {Q : List V → (Heap → Prop) → Prop} (h : H p = some o) (hs : o.itr? = some xs) (k : Q xs (fun H => H p = some o)) : ofW (.ref p) H Q := by
  unfold ofW; simp only [h]; exact ⟨xs, hs, k⟩
section
variable {T : Nat → Option Fn} (S : Sys T)
theorem spec_node (h0 : T 0 = some f_Node_init) (h51 : T 51 = some f__law_node) {H : Heap} {p q : Nat} {o : O} {base top : Int} {ps : List Nat} {Q : PV} (hp : H p = some o) (ho : o.itr? = some (nats ps)) (zp : ps.length ≤ 1000) (zs : ∀ n ∈ ps, n ≤ 1000)
    (k : ∀ r r1 r2 G, H.le G → H r = none → H r1 = none → H r2 = none → r ≠ r1 → r ≠ r2 → G r = some (.inst 0 [(0, .ref r1), (1, .ref r2), (2, .ref q)]) → G r1 = some (.list ((kr base ps).map V.int)) → G r2 = some (.list ((vr top ps).map V.int)) → Q (.ref r) G) :
    S.Φ 51 [.ref p, .ref q, .int base, .int top] H Q := by
  have hlim : lim = 1000000 := rfl
  refine S.call h51 rfl ?_
  dsimp only [f__law_node]
  walk_at "m"
  walk_at "n"
  refine v_itr hp ho ?_
  refine comp_map (keyV base) hp (by rw [nats_len]; (first | lia | omega)) (fun x hx K hK => ?_) fun r1 n1 => ?_
  · obtain ⟨n, _, rfl⟩ := nats_mem hx
    walk_at "m"
    exact hK
  rw [keyV_map]
  have L1 := Heap.le_upd (o := .list ((kr base ps).map V.int)) n1
  have e1 : (H.upd r1 (.list ((kr base ps).map V.int))) r1 = some (.list ((kr base ps).map V.int)) := upd_self
  generalize H.upd r1 (.list ((kr base ps).map V.int)) = G1 at L1 e1
  refine v_itr (L1 _ _ hp) ho ?_
  refine comp_map (valV top) (L1 _ _ hp) (by rw [nats_len]; (first | lia | omega)) (fun x hx K hK => ?_) fun r2 n2 => ?_
  · obtain ⟨n, hn', rfl⟩ := nats_mem hx
    walk_at "m"
    refine v_mulI (.inr (mid_nat (Nat.le_trans (zs n hn') (by decide)))) ?_
    walk_at "m"
    exact hK
  rw [valV_map]
  have L2 := Heap.le_upd (o := .list ((vr top ps).map V.int)) n2
  have e2 : (G1.upd r2 (.list ((vr top ps).map V.int))) r2 = some (.list ((vr top ps).map V.int)) := upd_self
  generalize G1.upd r2 (.list ((vr top ps).map V.int)) = G2 at L2 e2
  have L02 := Heap.le_trans L1 L2
  refine new_node S h0 fun x nx => ?_
  have L6 := Heap.le_upd (o := .inst 0 [(0, .ref r1), (1, .ref r2), (2, .ref q)]) nx
  have e6 : (G2.upd x (.inst 0 [(0, .ref r1), (1, .ref r2), (2, .ref q)])) x = some (.inst 0 [(0, .ref r1), (1, .ref r2), (2, .ref q)]) := upd_self
  generalize G2.upd x (.inst 0 [(0, .ref r1), (1, .ref r2), (2, .ref q)]) = G6 at L6 e6
  exact end_ret rfl (k x r1 r2 G6 (Heap.le_trans L02 L6) (fresh_le L02 nx) n1 (fresh_le L1 n2) (fun e => by rw [e, L2 _ _ e1] at nx; cases nx) (fun e => by rw [e, e2] at nx; cases nx) e6 (Heap.le_trans L2 L6 _ _ e1) (L6 _ _ e2))
end
noncomputable def pl (w c : Nat) : Nat := c * (w + 1) + w
noncomputable def seg (w s m : Nat) : List Nat := (List.range' s m).map (pl w)
noncomputable def lp (w c : Nat) : List Nat := (List.range w).map fun k => c * (w + 1) + k
theorem seg_len {w s m : Nat} : (seg w s m).length = m := by unfold seg; rw [List.length_map, List.length_range']
theorem lp_len {w c : Nat} : (lp w c).length = w := by unfold lp; rw [List.length_map, List.length_range]
theorem pl_le {w c : Nat} (hw : w ≤ 3) (hc : c ≤ 100) : pl w c ≤ 1000 := by
  unfold pl
  have : c * (w + 1) ≤ 100 * 4 := Nat.mul_le_mul hc (by (first | lia | omega))
  (first | lia | omega)
theorem seg_le {w s m x : Nat} (hw : w ≤ 3) (hs : s + m ≤ 100) (h : x ∈ seg w s m) : x ≤ 1000 := by
  unfold seg at h
  obtain ⟨c, hc, rfl⟩ := List.mem_map.mp h
  have := List.mem_range'_1.mp hc
  exact pl_le hw (by (first | lia | omega))
theorem lp_le {w c x : Nat} (hw : w ≤ 3) (hc : c ≤ 100) (h : x ∈ lp w c) : x ≤ 1000 := by
  unfold lp at h
  obtain ⟨k, hk, rfl⟩ := List.mem_map.mp h
  have := List.mem_range.mp hk
  have : c * (w + 1) ≤ 100 * 4 := Nat.mul_le_mul hc (by (first | lia | omega))
  (first | lia | omega)
theorem lp_rng {w c : Nat} : rngList ((c * (w + 1) : Nat) : Int) ((c * (w + 1) + w : Nat) : Int) = nats (lp w c) := by
  unfold rngList lp nats
  have e : (((c * (w + 1) + w : Nat) : Int) - ((c * (w + 1) : Nat) : Int)).toNat = w := by (first | lia | omega)
  rw [e, List.map_map]
  refine List.map_congr_left fun k _ => ?_
  show V.int (((c * (w + 1) : Nat) : Int) + (k : Int)) = V.int ((c * (w + 1) + k : Nat) : Int)
  congr 1
noncomputable def plV (w : Nat) : V → V
  | .int z => .int (z * ((w : Int) + 1) + w)
  | v => v
theorem seg_map {w s m : Nat} : (rngList (s : Int) ((s + m : Nat) : Int)).map (plV w) = nats (seg w s m) := by
  unfold rngList seg nats
  have e : (((s + m : Nat) : Int) - (s : Int)).toNat = m := by (first | lia | omega)
  rw [e, List.map_map, List.map_map, List.range'_eq_map_range, List.map_map]
  refine List.map_congr_left fun k _ => ?_
  show V.int (((s : Int) + (k : Int)) * ((w : Int) + 1) + w) = V.int ((pl w (s + k) : Nat) : Int)
  unfold pl
  rw [Int.natCast_add, Int.natCast_mul, Int.natCast_add, Int.natCast_add]
  rfl
theorem comp_acc {Φ : Orac} {elt : Loc → Heap → PV → Prop} {m : Loc} {a n : Nat} {H : Heap} {Q : PV} (J : Nat → List V → Heap → Prop) (h0 : J 0 [] H) (hn : n ≤ 1000) (hl : ∀ j acc G, J j acc G → acc.length = j)
    (he : ∀ j acc G (K : PV), j < n → J j acc G → (∀ v G', J (j + 1) (acc ++ [v]) G' → K v G') → elt (m ++ [some (.int ((a + j : Nat) : Int))]) G K)
    (k : ∀ acc G b G', J n acc G → G.le G' → G b = none → G' b = some (.list acc) → Q (.ref b) G') : compW elt (wpC Φ none) 1 (fun _ => True) m (rngList a ((a + n : Nat) : Int)) [] H Q := by
  have hlim : lim = 1000000 := rfl
  have hlr : (rngList (a : Int) ((a + n : Nat) : Int)).length = n := by rw [rngList_len]; (first | lia | omega)
  refine comp_inv J h0 (fun j x acc G K hx hI hK => ?_) fun acc G hI => ?_
  · obtain ⟨rfl, hlt⟩ := rngList_get hx
    have := hl _ _ _ hI
    refine ⟨trivial, by (first | lia | omega), ?_⟩
    show (if true = true then elt (m ++ [some (.int ((a + j : Nat) : Int))]) G fun v H => ∃ H', H'.le H ∧ K (acc ++ [v]) H' else K acc G)
    rw [if_pos rfl]
    exact he j acc G _ (by (first | lia | omega)) hI fun v G' h => ⟨G', Heap.le_refl _, hK _ _ h⟩
  · rw [hlr] at hI
    have := hl _ _ _ hI
    exact ⟨trivial, by (first | lia | omega), fun b hb => k acc G b _ hI (Heap.le_upd hb) hb upd_self⟩
noncomputable def Leaf (G : Heap) (base top : Int) (w c x : Nat) : Prop := NodeAt G x (kr base (lp w c)) ((vr top (lp w c)).map V.int) (refs [])
section
variable {T : Nat → Option Fn} (S : Sys T)
theorem leaf_ok (h0 : T 0 = some f_Node_init) (h51 : T 51 = some f__law_node) {H : Heap} {base top : Int} {w c : Nat} {x0 x1 x6 : Option V} {Q : PV} (hw : w ≤ 3) (hc : c ≤ 100)
    (k : ∀ x G, H.le G → H x = none → Leaf (off G H) base top w c x → Q (.ref x) G) : wpE S.Φ leafE [x0, x1, some (.int w), some (.int base), some (.int top), some (.int ((w : Int) + 1)), x6, some (.int c)] H Q := by
  have hlim : lim = 1000000 := rfl
  unfold leafE
  walk_at "m"
  have mc : mid (c : Int) := mid_nat (by (first | lia | omega))
  have hcw : c * (w + 1) ≤ 100 * 4 := Nat.mul_le_mul hc (by (first | lia | omega))
  refine v_mulI (.inl mc) ?_
  refine v_mulI (.inl mc) ?_
  walk_at "m"
  have e1 : (c : Int) * ((w : Int) + 1) = ((c * (w + 1) : Nat) : Int) := by rw [Int.natCast_mul]; rfl
  have e2 : ((c * (w + 1) : Nat) : Int) + (w : Int) = ((c * (w + 1) + w : Nat) : Int) := rfl
  rw [e1, e2]
  refine v_range (mid_nat (by (first | lia | omega))) (mid_nat (by (first | lia | omega))) fun p np => ?_
  have L1 := Heap.le_upd (o := .rng ((c * (w + 1) : Nat) : Int) ((c * (w + 1) + w : Nat) : Int)) np
  have e3 : (H.upd p (.rng ((c * (w + 1) : Nat) : Int) ((c * (w + 1) + w : Nat) : Int))) p = some (.rng ((c * (w + 1) : Nat) : Int) ((c * (w + 1) + w : Nat) : Int)) := upd_self
  generalize H.upd p (.rng ((c * (w + 1) : Nat) : Int) ((c * (w + 1) + w : Nat) : Int)) = G1 at L1 e3
  refine v_allocL fun b2 G2 L2 n2 e4 => ?_
  have L02 := Heap.le_trans L1 L2
  refine spec_node S h0 h51 (ps := lp w c) (L2 _ _ e3) (by rw [← lp_rng]; rfl) (by rw [lp_len]; (first | lia | omega)) (fun n hn => lp_le hw hc hn) fun r r1 r2 G L3 n3 n4 n5 d1 d2 g1 g2 g3 => ?_
  refine k r G (Heap.le_trans L02 L3) (fresh_le L02 n3) ⟨r1, r2, b2, off_at (fresh_le L02 n3) g1, off_at (fresh_le L02 n4) g2, off_at (fresh_le L02 n5) g3, off_at (fresh_le L1 n2) (L3 _ _ e4)⟩
theorem spec_child (h0 : T 0 = some f_Node_init) (h51 : T 51 = some f__law_node) (h52 : T 52 = some f__law_child) {H : Heap} {base top : Int} {w s m : Nat} {Q : PV} (hw : w ≤ 3) (hs : s + m ≤ 99)
    (k : ∀ r G L, H.le G → r ∉ L → (w = 0 → L = []) → (w ≠ 0 → L.length = m + 1) → (∀ (c : Nat) x, L[c]? = some x → Leaf (off G H) base top w (s + c) x) →
      NodeAt (off G H) r (kr base (seg w s m)) ((vr top (seg w s m)).map V.int) (refs L) → Q (.ref r) G) : S.Φ 52 [.int s, .int m, .int w, .int base, .int top] H Q := by
  have hlim : lim = 1000000 := rfl
  refine S.call h52 rfl ?_
  dsimp only [f__law_child]
  walk_at "m"
  walk_at "n"
  walk_at "n"
  refine v_allocL fun b1 G1 L1 n1 e1 => ?_
  have em : (s : Int) + (m : Int) = ((s + m : Nat) : Int) := rfl
  have em1 : ((s + m : Nat) : Int) + 1 = ((s + (m + 1) : Nat) : Int) := rfl
  have fin : ∀ G p6 L, H.le G → H p6 = none → G p6 = some (.list (refs L)) → (w = 0 → L = []) → (w ≠ 0 → L.length = m + 1) → (∀ (c : Nat) x, L[c]? = some x → Leaf (off G H) base top w (s + c) x) →
      wpSs S.Φ [.ret (some (.call 51 [(.comp (.bop .add (.bop .mul (.var 7) (.var 5)) (.var 2)) 1 (.rng2 (.var 0) (.bop .add (.var 0) (.var 1))) none), (.var 6), (.var 3), (.var 4)]))] [some (.int s), some (.int m), some (.int w), some (.int base), some (.int top), some (.int ((w : Int) + 1)), some (.ref p6)] G (fun fl _ H' => ∃ H'', H''.le H' ∧ Q fl.val H'') := by
    intro G p6 L LG np6 h6 hL0 hL1 lf
    walk_at "n"
    rw [em]
    refine v_rng2 (mid_nat (by (first | lia | omega))) (mid_nat (by (first | lia | omega))) ?_
    refine comp_map (plV w) trivial (by rw [rngList_len]; (first | lia | omega)) (fun x hx K hK => ?_) fun b nb => ?_
    · obtain ⟨q, hq⟩ := List.getElem?_of_mem hx
      obtain ⟨rfl, hlt⟩ := rngList_get hq
      walk_at "m"
      refine v_mulI (.inr (mid_of (by (first | lia | omega)) (by (first | lia | omega)))) ?_
      walk_at "m"
      exact hK
    rw [seg_map]
    have L2 := Heap.le_upd (o := .list (nats (seg w s m))) nb
    have e2 : (G.upd b (.list (nats (seg w s m)))) b = some (.list (nats (seg w s m))) := upd_self
    generalize G.upd b (.list (nats (seg w s m))) = G2 at L2 e2
    have L02 := Heap.le_trans LG L2
    refine spec_node S h0 h51 (q := p6) (ps := seg w s m) e2 rfl (by rw [seg_len]; (first | lia | omega)) (fun n hn => seg_le hw (by (first | lia | omega)) hn) fun r r1 r2 G3 L3 n3 n4 n5 d1 d2 g1 g2 g3 => ?_
    have L23 := Heap.le_trans L2 L3
    refine end_ret rfl (k r G3 L (Heap.le_trans L02 L3) (fun q => ?_) hL0 hL1 (fun c x h => NodeAt_le (lf c x h) (off_mono L23)) ⟨r1, r2, p6, off_at (fresh_le L02 n3) g1, off_at (fresh_le L02 n4) g2, off_at (fresh_le L02 n5) g3, off_at np6 (L23 _ _ h6)⟩)
    obtain ⟨c, hc⟩ := List.getElem?_of_mem q
    obtain ⟨_, _, _, e, _⟩ := lf c r hc
    rw [L2 _ _ (off_le _ _ e)] at n3; cases n3
  walk_at "n"
  refine v_if (fun e => ?_) fun e => ?_
  · have hw0 : w ≠ 0 := by have := of_decide_eq_true e; (first | lia | omega)
    walk_at "n"
    rw [em, em1]
    refine v_rng2 (mid_nat (by (first | lia | omega))) (mid_nat (by (first | lia | omega))) ?_
    refine comp_acc (fun j acc G => H.le G ∧ ∃ L : List Nat, acc = refs L ∧ L.length = j ∧ ∀ (c : Nat) x, L[c]? = some x → Leaf (off G H) base top w (s + c) x)
      ⟨L1, [], rfl, rfl, (fun _ _ h => nomatch h)⟩ (by (first | lia | omega)) (fun j acc G hJ => by obtain ⟨_, L, rfl, e, _⟩ := hJ; rw [refs_len, e]) (fun j acc G K' hj hJ hK => ?_) fun acc G r G2 hJ L2 nr e2 => ?_
    · obtain ⟨LG, L, rfl, ll, lf⟩ := hJ
      refine leaf_ok S h0 h51 hw (by (first | lia | omega)) fun x G' L' nx lx => ?_
      have od : ∀ b, G b = none → H b = none := fun b hb => fresh_le LG hb
      refine hK _ _ ⟨Heap.le_trans LG L', L ++ [x], by rw [refs_app]; rfl, by rw [List.length_append, ll]; rfl, fun c y hy => ?_⟩
      have hc := lt_of_get hy
      rw [List.length_append, List.length_cons, List.length_nil] at hc
      by_cases d : c < L.length
      · rw [List.getElem?_append_left d] at hy
        exact NodeAt_le (lf c y hy) (off_mono L')
      · have ec : c = j := by (first | lia | omega)
        subst ec
        rw [List.getElem?_append_right (by (first | lia | omega)), ll, Nat.sub_self] at hy
        cases hy
        exact NodeAt_le lx (off_dom od)
    · obtain ⟨LG, L, rfl, ll, lf⟩ := hJ
      walk_at "m"
      refine n_nil (n_then ?_)
      exact fin G2 r L (Heap.le_trans LG L2) (fresh_le LG nr) e2 (fun h => absurd h hw0) (fun _ => ll) fun c x h => NodeAt_le (lf c x h) (off_mono L2)
  · have hw0 : w = 0 := by have := of_decide_eq_false e; (first | lia | omega)
    refine n_nil (n_then ?_)
    exact fin G1 b1 [] L1 n1 e1 (fun _ => rfl) (fun h => absurd hw0 h) (fun _ _ h => nomatch h)
end
noncomputable def lo (m : Nat → Nat) : Nat → Nat
  | 0 => 0
  | j + 1 => lo m j + m j + 1
noncomputable def LL (all : List Nat) (s m : Nat) : List Nat := (all.drop s).take m
noncomputable def sepL (w : Nat) (m : Nat → Nat) (n : Nat) : List Nat := (List.range (n - 1)).map fun j => pl w (lo m j + m j)
theorem sepL_len {w n : Nat} {m : Nat → Nat} : (sepL w m n).length = n - 1 := by unfold sepL; rw [List.length_map, List.length_range]
theorem sepL_add {w j : Nat} {m : Nat → Nat} : sepL w m (j + 2) = sepL w m (j + 1) ++ [pl w (lo m j + m j)] := by
  unfold sepL
  rw [Nat.add_sub_cancel, show j + 2 - 1 = j + 1 from rfl, List.range_succ, List.map_append]
  rfl
theorem lo_up {m : Nat → Nat} : ∀ {j n : Nat}, j ≤ n → lo m j ≤ lo m n := by
  intro j n h
  induction n with
  | zero => cases h; exact Nat.le_refl _
  | succ n ih =>
    rcases Nat.lt_or_ge j (n + 1) with h' | h'
    · exact Nat.le_trans (ih (by (first | lia | omega))) (by show lo m n ≤ lo m n + m n + 1; (first | lia | omega))
    · have : j = n + 1 := by (first | lia | omega)
      rw [this]; exact Nat.le_refl _
theorem sepL_le {w n x : Nat} {m : Nat → Nat} (hw : w ≤ 3) (hs : lo m n ≤ 90) (h : x ∈ sepL w m n) : x ≤ 1000 := by
  unfold sepL at h
  obtain ⟨c, hc, rfl⟩ := List.mem_map.mp h
  have h1 := List.mem_range.mp hc
  have h2 : lo m (c + 1) ≤ lo m n := lo_up (by (first | lia | omega))
  have h3 : lo m (c + 1) = lo m c + m c + 1 := rfl
  exact pl_le hw (by (first | lia | omega))
theorem LL_len {all : List Nat} {s m : Nat} (h : s + m ≤ all.length) : (LL all s m).length = m := by unfold LL; rw [List.length_take, List.length_drop]; (first | lia | omega)
theorem LL_len_le {all : List Nat} {s m : Nat} : (LL all s m).length ≤ m := by unfold LL; rw [List.length_take]; (first | lia | omega)
theorem LL_app {all L : List Nat} {s m : Nat} (h : s + m ≤ all.length) : LL (all ++ L) s m = LL all s m := by
  unfold LL
  rw [List.drop_append_of_le_length (by (first | lia | omega)), List.take_append_of_le_length (by rw [List.length_drop]; (first | lia | omega))]
theorem LL_end {all L : List Nat} {s m : Nat} (h : s = all.length) (h' : L.length = m) : LL (all ++ L) s m = L := by
  unfold LL
  rw [h, List.drop_left, ← h', List.take_length]
theorem LL_nil {s m : Nat} : LL [] s m = [] := by unfold LL; rw [List.drop_nil, List.take_nil]
structure Grp (G : Heap) (base top : Int) (w n : Nat) (m : Nat → Nat) (kids all : List Nat) : Prop where
  lk : kids.length = n
  nd : ∀ (j : Nat) k, kids[j]? = some k → NodeAt G k (kr base (seg w (lo m j) (m j))) ((vr top (seg w (lo m j) (m j))).map V.int) (refs (LL all (lo m j) (m j + 1)))
  a0 : w = 0 → all = []
  a1 : w ≠ 0 → all.length = lo m n
  lf : ∀ (c : Nat) x, all[c]? = some x → Leaf G base top w c x
  dist : kids.Nodup
  sp : ∀ x ∈ all, x ∉ kids
theorem Grp.le {G G' : Heap} {base top : Int} {w n : Nat} {m : Nat → Nat} {kids all : List Nat} (f : Grp G base top w n m kids all) (L : G.le G') : Grp G' base top w n m kids all :=
  ⟨f.lk, fun j k h => NodeAt_le (f.nd j k h) L, f.a0, f.a1, fun c x h => NodeAt_le (f.lf c x h) L, f.dist, f.sp⟩
theorem Grp.inst {G : Heap} {base top : Int} {w n : Nat} {m : Nat → Nat} {kids all : List Nat} (f : Grp G base top w n m kids all) {x : Nat} (h : x ∈ kids ∨ x ∈ all) : ∃ fs, G x = some (.inst 0 fs) := by
  rcases h with h | h
  · obtain ⟨j, hj⟩ := List.getElem?_of_mem h
    obtain ⟨_, _, _, e, _⟩ := f.nd j x hj
    exact ⟨_, e⟩
  · obtain ⟨j, hj⟩ := List.getElem?_of_mem h
    obtain ⟨_, _, _, e, _⟩ := f.lf j x hj
    exact ⟨_, e⟩
theorem Grp.add {G : Heap} {base top : Int} {w n : Nat} {m : Nat → Nat} {kids all : List Nat} (f : Grp G base top w n m kids all) {r : Nat} {L : List Nat} (rk : r ∉ kids) (ra : r ∉ all) (rL : r ∉ L) (Lk : ∀ x ∈ L, x ∉ kids) (z0 : w = 0 → L = []) (z1 : w ≠ 0 → L.length = m n + 1)
    (lf : ∀ (c : Nat) x, L[c]? = some x → Leaf G base top w (lo m n + c) x) (na : NodeAt G r (kr base (seg w (lo m n) (m n))) ((vr top (seg w (lo m n) (m n))).map V.int) (refs L)) : Grp G base top w (n + 1) m (kids ++ [r]) (all ++ L) := by
  refine ⟨by rw [List.length_append, f.lk]; rfl, fun j k h => ?_, fun h => by rw [f.a0 h, z0 h]; rfl, fun h => by rw [List.length_append, f.a1 h, z1 h]; rfl, fun c x h => ?_, ?_, fun x hx q => ?_⟩
  · have hc := lt_of_get h
    rw [List.length_append, List.length_cons, List.length_nil] at hc
    have lk := f.lk
    by_cases d : j < kids.length
    · rw [List.getElem?_append_left d] at h
      have e : LL (all ++ L) (lo m j) (m j + 1) = LL all (lo m j) (m j + 1) := by
        by_cases w0 : w = 0
        · rw [f.a0 w0, z0 w0]; rfl
        · have h1 := f.a1 w0
          have h2 : lo m (j + 1) ≤ lo m n := lo_up (by (first | lia | omega))
          have h3 : lo m (j + 1) = lo m j + m j + 1 := rfl
          exact LL_app (by (first | lia | omega))
      rw [e]
      exact f.nd j k h
    · have ej : j = n := by (first | lia | omega)
      subst ej
      rw [List.getElem?_append_right (by (first | lia | omega)), lk, Nat.sub_self] at h
      cases h
      have e : LL (all ++ L) (lo m j) (m j + 1) = L := by
        by_cases w0 : w = 0
        · rw [f.a0 w0, z0 w0]; exact LL_nil
        · exact LL_end (f.a1 w0).symm (z1 w0)
      rw [e]
      exact na
  · by_cases d : c < all.length
    · rw [List.getElem?_append_left d] at h
      exact f.lf c x h
    · rw [List.getElem?_append_right (by (first | lia | omega))] at h
      by_cases w0 : w = 0
      · rw [z0 w0] at h; simp at h
      · have h1 := f.a1 w0
        have := lf _ x h
        rw [show lo m n + (c - all.length) = c by (first | lia | omega)] at this
        exact this
  · refine List.nodup_append.mpr ⟨f.dist, by simp, fun x hx y hy e => ?_⟩
    rw [List.mem_singleton.mp hy] at e
    exact rk (e ▸ hx)
  · rcases List.mem_append.mp hx with hx | hx
    · rcases List.mem_append.mp q with q | q
      · exact f.sp x hx q
      · exact ra (List.mem_singleton.mp q ▸ hx)
    · rcases List.mem_append.mp q with q | q
      · exact Lk x hx q
      · exact rL (List.mem_singleton.mp q ▸ hx)
structure Des (G : Heap) (base top : Int) (w n : Nat) (m : Nat → Nat) (pa : Nat) (kids all : List Nat) : Prop where
  g : Grp G base top w n m kids all
  par : NodeAt G pa (kr base (sepL w m n)) ((vr top (sepL w m n)).map V.int) (refs kids)
  pk : pa ∉ kids
  pl : pa ∉ all
theorem Des.le {G G' : Heap} {base top : Int} {w n : Nat} {m : Nat → Nat} {pa : Nat} {kids all : List Nat} (f : Des G base top w n m pa kids all) (L : G.le G') : Des G' base top w n m pa kids all := ⟨f.g.le L, NodeAt_le f.par L, f.pk, f.pl⟩
noncomputable def szf (sz : List Nat) (j : Nat) : Nat := (sz[j]?).getD 0
section
variable {T : Nat → Option Fn} (S : Sys T)
theorem spec_parent (h0 : T 0 = some f_Node_init) (h51 : T 51 = some f__law_node) (h52 : T 52 = some f__law_child) (h53 : T 53 = some f__law_parent) {H : Heap} {base top : Int} {w p : Nat} {sz : List Nat} {Q : PV} (hw : w ≤ 3) (hp : H p = some (.list (nats sz))) (zl : sz.length ≤ 10) (zs : lo (szf sz) sz.length ≤ 90)
    (k : ∀ pa kids all G, H.le G → Des G base top w sz.length (szf sz) pa kids all → Q (.ref pa) G) : S.Φ 53 [.ref p, .int w, .int base, .int top] H Q := by
  have hlim : lim = 1000000 := rfl
  refine S.call h53 rfl ?_
  dsimp only [f__law_parent]
  walk_at "m"
  walk_at "n"
  refine v_allocL fun p4 G1 L1 n4 e4 => ?_
  walk_at "n"
  refine v_allocL fun p5 G2 L2 n5 e5 => ?_
  have d45 : p4 ≠ p5 := ne_of_look n5 e4
  have n5' := fresh_le L1 n5
  have L02 := Heap.le_trans L1 L2
  walk_at "n"
  walk_at "n"
  refine v_itr (L02 _ _ hp) rfl ?_
  have e4' := L2 _ _ e4
  refine for_inv (fun j mm G => ∃ x7 kids all, mm = [some (.ref p), some (.int w), some (.int base), some (.int top), some (.ref p4), some (.ref p5), some (.int (lo (szf sz) j : Nat)), x7] ∧ H.le G ∧ (∀ b, G b = none → G2 b = none) ∧ G p4 = some (.list (nats (sepL w (szf sz) j))) ∧ G p5 = some (.list (refs kids)) ∧ Grp (off G G2) base top w j (szf sz) kids all)
    ⟨none, [], [], rfl, L02, fun _ h => h, e4', e5, rfl, (fun _ _ h => nomatch h), (fun _ => rfl), (fun _ => rfl), (fun _ _ h => nomatch h), List.nodup_nil, (fun _ h => nomatch h)⟩ (fun j x mm G K hx hI hK => ?_) fun mm G hI => ?_
  · obtain ⟨x7, kids, all, rfl, LG, dom, g4, g5, grp⟩ := hI
    refine ⟨LG _ _ hp, ?_⟩
    have hj := lt_of_get hx
    rw [nats_len] at hj
    unfold nats at hx
    rw [List.getElem?_map] at hx
    obtain ⟨n, hn, rfl⟩ := Option.map_eq_some_iff.mp hx
    have en : szf sz j = n := by unfold szf; rw [hn]; rfl
    have hlo : lo (szf sz) (j + 1) ≤ lo (szf sz) sz.length := lo_up hj
    have hlo' : lo (szf sz) (j + 1) = lo (szf sz) j + szf sz j + 1 := rfl
    rw [en] at hlo'
    walk_at "m"
    show wpSs S.Φ bodyP [some (.ref p), some (.int w), some (.int base), some (.int top), some (.ref p4), some (.ref p5), some (.int (lo (szf sz) j : Nat)), some (.int n)] G _
    have lk := grp.lk
    have rest : ∀ G', H.le G' → (∀ b, G' b = none → G2 b = none) → G' p4 = some (.list (nats (sepL w (szf sz) (j + 1)))) → G' p5 = some (.list (refs kids)) → Grp (off G' G2) base top w j (szf sz) kids all →
        wpSs S.Φ [.append (.var 5) (.call 52 [(.var 6), (.var 7), (.var 1), (.var 2), (.var 3)]), .assign 6 (.bop .add (.bop .add (.var 6) (.var 7)) (.lit (.int 1)))] [some (.ref p), some (.int w), some (.int base), some (.int top), some (.ref p4), some (.ref p5), some (.int (lo (szf sz) j : Nat)), some (.int n)] G' (turnW K (thenW (fun m H => wpSs S.Φ [.ret (some (.call 51 [(.var 4), (.var 5), (.var 2), (.var 3)]))] m H (fun fl _ H' => ∃ H'', H''.le H' ∧ Q fl.val H'')) (fun fl _ H' => ∃ H'', H''.le H' ∧ Q fl.val H''))) := by
      intro G' LG dom g4 g5 grp
      walk_at "n"
      refine ⟨by show (match G' p5 with | some (.list _) => True | _ => False); rw [g5]; trivial, ?_⟩
      refine spec_child S h0 h51 h52 hw (by (first | lia | omega)) fun r G3 L L3 rL z0 z1 lf na => ?_
      refine v_append (L3 _ _ g5) (by rw [refs_len]; (first | lia | omega)) ?_
      walk_at "n"
      have G5 : ∀ b, G3 b = none → G' b = none := fun b h => fresh_le L3 h
      have o2 : (off G3 G').le (off (G3.upd p5 (.list (refs kids ++ [.ref r]))) G2) := Heap.le_trans (off_dom dom) (off_upd e5)
      have o1 : (off G' G2).le (off (G3.upd p5 (.list (refs kids ++ [.ref r]))) G2) := Heap.le_trans (off_mono L3) (off_upd e5)
      have nr : G' r = none := by obtain ⟨_, _, _, e, _⟩ := na; exact off_none e
      have old : ∀ x, x ∈ kids ∨ x ∈ all → G' x ≠ none := fun x hx q => by
        obtain ⟨fs, e⟩ := grp.inst hx
        rw [off_le _ _ e] at q; cases q
      have lx : ∀ x ∈ L, G' x = none := fun x hx => by
        obtain ⟨c, hc⟩ := List.getElem?_of_mem hx
        obtain ⟨_, _, _, e, _⟩ := lf c x hc
        exact off_none e
      have e6 : (lo (szf sz) j : Int) + (n : Int) + 1 = ((lo (szf sz) (j + 1) : Nat) : Int) := by rw [hlo']; rfl
      rw [e6]
      refine n_nil (turn_next (hK _ _ ⟨_, kids ++ [r], all ++ L, rfl, fun b o e => ?_, fun b h => ?_, ?_, by rw [upd_self, refs_app]; rfl, ?_⟩))
      · rw [upd_ne (fun q => by rw [q, n5'] at e; cases e)]
        exact L3 _ _ (LG _ _ e)
      · refine dom b (G5 b ?_)
        by_cases q : b = p5
        · rw [q, upd_self] at h; cases h
        · rw [upd_ne q] at h; exact h
      · rw [upd_ne d45]; exact L3 _ _ g4
      · refine (grp.le o1).add (fun q => old r (.inl q) nr) (fun q => old r (.inr q) nr) rL (fun x hx q => old x (.inl q) (lx x hx)) z0 (by rw [en]; exact z1) (fun c x h => NodeAt_le (lf c x h) o2) ?_
        rw [en]
        exact NodeAt_le na o2
    unfold bodyP
    walk_at "n"
    cases j with
    | zero =>
      refine v_ifF (decide_eq_false (by show ¬ (0 : Int) < ((0 : Nat) : Int); decide)) ?_
      refine n_nil (n_then ?_)
      exact rest G LG dom g4 g5 grp
    | succ j =>
      have hl1 : lo (szf sz) (j + 1) = lo (szf sz) j + szf sz j + 1 := rfl
      refine v_ifT (decide_eq_true (by (first | lia | omega))) ?_
      walk_at "n"
      refine ⟨by show (match G p4 with | some (.list _) => True | _ => False); rw [g4]; trivial, ?_⟩
      refine v_mulI (.inr (mid_of (by (first | lia | omega)) (by (first | lia | omega)))) ?_
      walk_at "m"
      refine v_append g4 (by rw [nats_len, sepL_len]; (first | lia | omega)) ?_
      refine n_nil (n_then ?_)
      have ev : (((lo (szf sz) (j + 1) : Nat) : Int) - 1) * ((w : Int) + 1) + (w : Int) = ((pl w (lo (szf sz) j + szf sz j) : Nat) : Int) := by
        have e0 : ((lo (szf sz) (j + 1) : Nat) : Int) - 1 = ((lo (szf sz) j + szf sz j : Nat) : Int) := by (first | lia | omega)
        rw [e0]
        unfold pl
        rw [Int.natCast_add (_ * _), Int.natCast_mul]
        rfl
      rw [ev]
      refine rest _ (fun b o e => ?_) (fun b h => ?_) (by rw [upd_self, sepL_add, nats_app]; rfl) (by rw [upd_ne (Ne.symm d45)]; exact g5) (grp.le (off_upd e4'))
      · rw [upd_ne (fun q => by rw [q, n4] at e; cases e)]
        exact LG _ _ e
      · refine dom b ?_
        by_cases q : b = p4
        · rw [q, upd_self] at h; cases h
        · rw [upd_ne q] at h; exact h
  · obtain ⟨x7, kids, all, rfl, LG, dom, g4, g5, grp⟩ := hI
    rw [nats_len] at g4 grp
    refine ⟨LG _ _ hp, n_then ?_⟩
    walk_at "n"
    refine spec_node S h0 h51 (q := p5) (ps := sepL w (szf sz) sz.length) g4 rfl (by rw [sepL_len]; (first | lia | omega)) (fun n hn => sepL_le hw zs hn) fun r r1 r2 G3 L3 n3 n6 n7 d1 d2 g1 g2 g3 => ?_
    have gG := (grp.le off_le)
    have old : ∀ x, x ∈ kids ∨ x ∈ all → G x ≠ none := fun x hx q => by
      obtain ⟨fs, e⟩ := gG.inst hx
      rw [e] at q; cases q
    exact end_ret rfl (k r kids all G3 (Heap.le_trans LG L3) ⟨gG.le L3, ⟨r1, r2, p5, g1, g2, g3, L3 _ _ g5⟩, fun q => old r (.inl q) n3, fun q => old r (.inr q) n3⟩)
end
theorem rd_le {H G : Heap} (L : H.le G) : ∀ {n : Nat} {v : V} {d : ML.D}, Rd H n v d → Rd G n v d := by
  intro n
  induction n with
  | zero => intro v d h; exact h
  | succ n ih =>
    intro v d h
    rcases h with h | ⟨a, o, xs, ds, e1, e2, e3, e4, k⟩ | ⟨a, xs, ds, e1, e2, e3, k⟩
    · exact .inl h
    · exact .inr (.inl ⟨a, o, xs, ds, e1, L _ _ e2, e3, e4, All2.mono (fun _ _ h => ih h) k⟩)
    · exact .inr (.inr ⟨a, xs, ds, e1, L _ _ e2, e3, All2.mono (fun _ _ h => ih h) k⟩)
theorem All2.thru {α β γ : Type} {R : α → β → Prop} {R' : α → γ → Prop} {R'' : γ → β → Prop} (h : ∀ a b c, R a b → R' a c → R'' c b) {l : List α} {m : List β} (x : All2 R l m) : ∀ {k : List γ}, All2 R' l k → All2 R'' k m := by
  induction x with
  | nil => intro k y; cases y; exact .nil
  | cons a _ ih => intro k y; cases y with | cons b r => exact .cons (h _ _ _ a b) (ih r)
theorem All2.pair {α β γ δ : Type} {R : γ → δ → Prop} {f : α → γ} {g : β → δ} {l : List α} {m : List β} (h : All2 (fun a b => R (f a) (g b)) l m) : All2 R (l.map f) (m.map g) := by
  induction h with
  | nil => exact .nil
  | cons a _ ih => exact .cons a ih
theorem comp_each {Φ : Orac} {elt : Loc → Heap → PV → Prop} {m : Loc} {p : Nat} {oo : List Nat} {H : Heap} {Q : PV} (R : Heap → Nat → Nat → Prop) (mono : ∀ G G' x b, G.le G' → R G x b → R G' x b) (hp : H p = some (.list (refs oo))) (hz : oo.length ≤ 1000)
    (he : ∀ x ∈ oo, ∀ G (K : PV), H.le G → (∀ b G', G.le G' → R G' x b → K (.ref b) G') → elt (m ++ [some (.ref x)]) G K)
    (k : ∀ b bs G', H.le G' → H b = none → G' b = some (.list (refs bs)) → All2 (R G') oo bs → Q (.ref b) G') : compW elt (wpC Φ none) 1 (fun G => G p = some (.list (refs oo))) m (refs oo) [] H Q := by
  have hlim : lim = 1000000 := rfl
  refine comp_inv (fun j acc G => H.le G ∧ ∃ bs, acc = refs bs ∧ bs.length = j ∧ All2 (R G) (oo.take j) bs) ⟨Heap.le_refl _, [], rfl, rfl, .nil⟩ (fun j x acc G K hx hI hK => ?_) fun acc G hI => ?_
  · obtain ⟨L, bs, rfl, lb, r⟩ := hI
    have hj := lt_of_get hx
    rw [refs_len] at hj
    unfold refs at hx
    rw [List.getElem?_map] at hx
    obtain ⟨d, hd, rfl⟩ := Option.map_eq_some_iff.mp hx
    refine ⟨L _ _ hp, by rw [refs_len]; (first | lia | omega), ?_⟩
    show (if true = true then elt (m ++ [some (.ref d)]) G fun v H => ∃ H', H'.le H ∧ K (refs bs ++ [v]) H' else K (refs bs) G)
    rw [if_pos rfl]
    refine he d (List.mem_of_getElem? hd) G _ L fun b G' L' hr => ⟨G', Heap.le_refl _, hK _ _ ⟨Heap.le_trans L L', bs ++ [b], by rw [refs_app]; rfl, by rw [List.length_append, lb]; rfl, ?_⟩⟩
    rw [List.take_add_one, hd]
    exact ML.All2.app (ML.All2.mono (fun x b h => mono _ _ x b L' h) r) (.cons hr .nil)
  · obtain ⟨L, bs, rfl, lb, r⟩ := hI
    rw [refs_len] at lb r
    rw [List.take_length] at r
    refine ⟨L _ _ hp, by rw [refs_len]; (first | lia | omega), fun b hb => k b bs _ (Heap.le_trans L (Heap.le_upd hb)) (fresh_le L hb) upd_self (ML.All2.mono (fun x b h => mono _ _ x b (Heap.le_upd hb) h) r)⟩
noncomputable abbrev Low := List Int × List Int × Nat
noncomputable abbrev Ent := List Int × List Int × List Low
noncomputable def kidD (y : Low) : ML.D := .tup [.list (y.1.map ML.D.int), .list (y.2.1.map ML.D.int), .int y.2.2]
noncomputable def entD (e : Ent) : ML.D := .tup [.list (e.1.map ML.D.int), .list (e.2.1.map ML.D.int), .list (e.2.2.map kidD)]
noncomputable def KidV (G : Heap) (x : Nat) (y : Low) : Prop := ∃ cs, NodeAt G x y.1 (y.2.1.map V.int) cs ∧ cs.length = y.2.2
noncomputable def EntV (G : Heap) (x : Nat) (e : Ent) : Prop := ∃ L, NodeAt G x e.1 (e.2.1.map V.int) (refs L) ∧ All2 (KidV G) L e.2.2 ∧ L.length ≤ 100
section
variable {T : Nat → Option Fn} (S : Sys T)
theorem spec_view (h54 : T 54 = some f__law_view) {H : Heap} {pa : Nat} {K : List Int} {X : List V} {kids : List Nat} {es : List Ent} {Q : PV} (hp : NodeAt H pa K X (refs kids)) (zk : kids.length ≤ 100) (he : All2 (EntV H) (pa :: kids) es)
    (k : ∀ r G, H.le G → Rd G 5 (.ref r) (.list (es.map entD)) → Q (.ref r) G) : S.Φ 54 [.ref pa] H Q := by
  have hlim : lim = 1000000 := rfl
  refine S.call h54 rfl ?_
  dsimp only [f__law_view]
  walk_at "m"
  walk_at "n"
  refine v_allocL fun p1 G1 L1 n1 e1 => ?_
  walk_at "n"
  refine v_allocL fun b2 G2 L2 n2 e2 => ?_
  have L02 := Heap.le_trans L1 L2
  refine at_c (NodeAt_le hp L02) fun q1 k1 => ?_
  refine v_addLL e2 k1 (by rw [refs_len]; simp; (first | lia | omega)) fun p2 G3 L3 n3 e3 => ?_
  have L03 := Heap.le_trans L02 L3
  refine v_itr e3 rfl ?_
  have e3' : G3 p2 = some (.list (refs (pa :: kids))) := e3
  have d12 : p1 ≠ p2 := ne_of_look n3 (L2 _ _ e1)
  show forW _ _ _ (refs (pa :: kids)) _ _ _
  refine for_inv (fun j mm G => ∃ x2 rs, mm = [some (.ref pa), some (.ref p1), x2] ∧ H.le (G.del p1) ∧ G p2 = some (.list (refs (pa :: kids))) ∧ G p1 = some (.list (refs rs)) ∧ rs.length = j ∧ All2 (fun r e => Rd (G.del p1) 4 (.ref r) (entD e)) rs (es.take j))
    ⟨none, [], rfl, le_del L03 n1, e3', L3 _ _ (L2 _ _ e1), rfl, .nil⟩ (fun j x mm G K' hx hI hK => ?_) fun mm G hI => ?_
  · obtain ⟨x2, rs, rfl, LG, g2, g1, lr, ra⟩ := hI
    refine ⟨g2, ?_⟩
    have hj := lt_of_get hx
    rw [refs_len, List.length_cons] at hj
    unfold refs at hx
    rw [List.getElem?_map] at hx
    obtain ⟨d, hd, rfl⟩ := Option.map_eq_some_iff.mp hx
    obtain ⟨e, hee, L, ⟨ik, iv, ic, i1, i2, i3, i4⟩, kv, zL⟩ := he.at' hd
    have LG' : H.le G := Heap.le_trans LG del_le
    walk_at "m"
    show wpSs S.Φ bodyV [some (.ref pa), some (.ref p1), some (.ref d)] G _
    unfold bodyV
    walk_at "n"
    refine ⟨by show (match G p1 with | some (.list _) => True | _ => False); rw [g1]; trivial, ?_⟩
    refine v_attr (LG' _ _ i1) rfl ?_
    refine v_attr (LG' _ _ i1) rfl ?_
    refine v_attr (LG' _ _ i1) rfl ?_
    refine v_of (LG' _ _ i4) rfl ?_
    refine comp_each (fun Z x b => ∀ y, KidV H x y → Rd (Z.del p1) 2 (.ref b) (kidD y)) (fun Z Z' x b l h y hy => rd_le (del_mono l) (h y hy)) (LG' _ _ i4) (by (first | lia | omega)) (fun x hx Z K'' LZ hK'' => ?_) fun b bs Z LZ nb eb rb => ?_
    · obtain ⟨c, hc⟩ := List.getElem?_of_mem hx
      obtain ⟨y0, _, cs0, ⟨jk, jv, jc, j1, j2, j3, j4⟩, _⟩ := kv.at' hc
      have LZ' : H.le Z := Heap.le_trans LG' LZ
      walk_at "m"
      refine v_attr (LZ' _ _ j1) rfl ?_
      refine v_attr (LZ' _ _ j1) rfl ?_
      refine v_attr (LZ' _ _ j1) rfl ?_
      refine v_len (LZ' _ _ j4) rfl ?_
      refine v_allocL fun b4 Z4 M4 n4 e4 => ?_
      refine hK'' b4 Z4 M4 fun y hy => ?_
      obtain ⟨cs, ⟨yk, yv, yc, y1, y2, y3, y4⟩, yl⟩ := hy
      rw [j1] at y1
      cases y1
      rw [j4] at y4
      cases y4
      have LZ4 : H.le (Z4.del p1) := Heap.le_trans LG (del_mono (Heap.le_trans LZ M4))
      have nb4 : b4 ≠ p1 := fun q => by rw [q, LZ _ _ g1] at n4; cases n4
      refine rd_tup ((del_ne nb4).trans e4) (.cons (rd_ints (LZ4 _ _ y2) rfl) (.cons (rd_ints (LZ4 _ _ y3) rfl) (.cons ?_ .nil)))
      rw [yl]
      exact rd_int
    refine v_allocL fun b5 Z5 M5 n5 e5 => ?_
    have LZ5 : G.le Z5 := Heap.le_trans LZ M5
    refine v_append (LZ5 _ _ g1) (by rw [refs_len]; (first | lia | omega)) ?_
    have nb5 : b5 ≠ p1 := fun q => by rw [q, LZ _ _ g1] at n5; cases n5
    have nbp : b ≠ p1 := fun q => by rw [q, g1] at nb; cases nb
    have LD : (G.del p1).le (Z5.del p1) := del_mono LZ5
    have LH := Heap.le_trans LG LD
    refine n_nil (turn_next (hK _ _ ⟨_, rs ++ [b5], rfl, ?_, ?_, ?_, ?_, ?_⟩))
    · rw [del_upd]; exact LH
    · rw [upd_ne (Ne.symm d12)]; exact LZ5 _ _ g2
    · rw [upd_self, refs_app]; rfl
    · rw [List.length_append, lr]; rfl
    · rw [del_upd, List.take_add_one, hee]
      refine ML.All2.app (ML.All2.mono (fun _ _ h => rd_le LD h) ra) (.cons ?_ .nil)
      refine rd_tup ((del_ne nb5).trans e5) (.cons (rd_ints (LH _ _ i2) rfl) (.cons (rd_ints (LH _ _ i3) rfl) (.cons ?_ .nil)))
      refine rd_list ((del_ne nbp).trans (M5 _ _ eb)) rfl ?_
      have tt : All2 (fun b y => Rd (Z.del p1) 2 (.ref b) (kidD y)) bs e.2.2 := All2.thru (fun a b c h1 h2 => h2 b h1) kv rb
      exact All2.pair (f := V.ref) (g := kidD) (ML.All2.mono (fun _ _ h => rd_le (del_mono M5) h) tt)
  · obtain ⟨x2, rs, rfl, LG, g2, g1, lr, ra⟩ := hI
    refine ⟨g2, n_then ?_⟩
    walk_at "n"
    have hl : es.take (refs (pa :: kids)).length = es := by
      rw [refs_len, he.len, List.take_length]
    rw [hl] at ra
    refine end_ret rfl (k p1 G (Heap.le_trans LG del_le) (rd_list g1 rfl ?_))
    exact All2.pair (f := V.ref) (g := entD) (ML.All2.mono (fun _ _ h => rd_le del_le h) ra)
end
theorem all2_of {α β : Type} {R : α → β → Prop} : ∀ {l : List α} {m : List β}, l.length = m.length → (∀ (j : Nat) a b, l[j]? = some a → m[j]? = some b → R a b) → All2 R l m := by
  intro l
  induction l with
  | nil => intro m e _; cases m with | nil => exact .nil | cons => cases e
  | cons a l ih =>
    intro m e h
    cases m with
    | nil => cases e
    | cons b m => exact .cons (h 0 a b rfl rfl) (ih (Nat.succ.inj e) fun j x y h1 h2 => h (j + 1) x y h1 h2)
noncomputable def cl (w k : Nat) : Nat := if w = 0 then 0 else k + 1
noncomputable def entP (base top : Int) (w n : Nat) (m : Nat → Nat) : Ent := (kr base (sepL w m n), vr top (sepL w m n), (List.range n).map fun j => (kr base (seg w (lo m j) (m j)), vr top (seg w (lo m j) (m j)), cl w (m j)))
noncomputable def entC (base top : Int) (w : Nat) (m : Nat → Nat) (j : Nat) : Ent := (kr base (seg w (lo m j) (m j)), vr top (seg w (lo m j) (m j)), (List.range' (lo m j) (cl w (m j))).map fun c => (kr base (lp w c), vr top (lp w c), 0))
noncomputable def ents (base top : Int) (w n : Nat) (m : Nat → Nat) : List Ent := entP base top w n m :: (List.range n).map (entC base top w m)
theorem LL_get {all : List Nat} {s k c x : Nat} (h : (LL all s k)[c]? = some x) : all[s + c]? = some x ∧ c < k := by
  unfold LL at h
  rw [List.getElem?_take] at h
  split at h
  · rename_i q; rw [List.getElem?_drop] at h; exact ⟨h, q⟩
  · cases h
theorem Grp.LLn {G : Heap} {base top : Int} {w n : Nat} {m : Nat → Nat} {kids all : List Nat} (f : Grp G base top w n m kids all) {j : Nat} (hj : j < n) : (LL all (lo m j) (m j + 1)).length = cl w (m j) := by
  unfold cl
  by_cases w0 : w = 0
  · rw [if_pos w0, f.a0 w0, LL_nil]; rfl
  · rw [if_neg w0]
    have h1 := f.a1 w0
    have h2 : lo m (j + 1) ≤ lo m n := lo_up hj
    have h3 : lo m (j + 1) = lo m j + m j + 1 := rfl
    exact LL_len (by (first | lia | omega))
theorem Des.ents {G : Heap} {base top : Int} {w n : Nat} {m : Nat → Nat} {pa : Nat} {kids all : List Nat} (f : Des G base top w n m pa kids all) (hn : n ≤ 50) (hm : ∀ j, j < n → m j ≤ 50) : All2 (EntV G) (pa :: kids) (ents base top w n m) := by
  have lk := f.g.lk
  refine .cons ⟨kids, f.par, all2_of ?_ fun j x y h1 h2 => ?_, by (first | lia | omega)⟩ (all2_of ?_ fun j x e h1 h2 => ?_)
  · show kids.length = ((List.range n).map _).length
    rw [List.length_map, List.length_range, lk]
  · have hj : j < n := by have := lt_of_get h1; (first | lia | omega)
    have h2 : ((List.range n).map fun j => ((kr base (seg w (lo m j) (m j)), vr top (seg w (lo m j) (m j)), cl w (m j)) : Low))[j]? = some y := h2
    rw [List.getElem?_map, List.getElem?_range hj] at h2
    cases h2
    exact ⟨_, f.g.nd j x h1, by rw [refs_len]; exact f.g.LLn hj⟩
  · rw [List.length_map, List.length_range, lk]
  · have hj : j < n := by have := lt_of_get h1; (first | lia | omega)
    rw [List.getElem?_map, List.getElem?_range hj] at h2
    cases h2
    refine ⟨_, f.g.nd j x h1, all2_of ?_ fun c z y h3 h4 => ?_, ?_⟩
    · show (LL all (lo m j) (m j + 1)).length = ((List.range' (lo m j) (cl w (m j))).map _).length
      rw [List.length_map, List.length_range', f.g.LLn hj]
    · have hc := lt_of_get h3
      rw [f.g.LLn hj] at hc
      have h4 : ((List.range' (lo m j) (cl w (m j))).map fun c => ((kr base (lp w c), vr top (lp w c), 0) : Low))[c]? = some y := h4
      rw [List.getElem?_map, List.getElem?_range' hc, Nat.one_mul] at h4
      cases h4
      exact ⟨_, f.g.lf _ z (LL_get h3).1, rfl⟩
    · have := hm j hj
      exact Nat.le_trans LL_len_le (by (first | lia | omega))
theorem ents_congr {base top : Int} {w n : Nat} {m m' : Nat → Nat} (h : ∀ j, j < n → m j = m' j) : ents base top w n m = ents base top w n m' := by
  have hl : ∀ j, j ≤ n → lo m j = lo m' j := by
    intro j
    induction j with
    | zero => intro _; rfl
    | succ j ih => intro hj; show lo m j + m j + 1 = lo m' j + m' j + 1; rw [ih (by (first | lia | omega)), h j hj]
  have hs : sepL w m n = sepL w m' n := List.map_congr_left fun j hj => by
    have := List.mem_range.mp hj
    rw [hl j (by (first | lia | omega)), h j (by (first | lia | omega))]
  unfold ents
  congr 1
  · unfold entP
    rw [hs]
    congr 2
    refine List.map_congr_left fun j hj => ?_
    have := List.mem_range.mp hj
    rw [hl j (by (first | lia | omega)), h j this]
  · refine List.map_congr_left fun j hj => ?_
    have := List.mem_range.mp hj
    unfold entC
    rw [hl j (by (first | lia | omega)), h j this]
noncomputable def mv (m : Nat → Nat) (j a b : Nat) (c : Nat) : Nat := if c = j then a else if c = j + 1 then b else m c
noncomputable def mg (m : Nat → Nat) (j : Nat) (c : Nat) : Nat := if c < j then m c else if c = j then m j + m (j + 1) + 1 else m (c + 1)
theorem mv_0 {m : Nat → Nat} {j a b : Nat} : mv m j a b j = a := by unfold mv; rw [if_pos rfl]
theorem mv_1 {m : Nat → Nat} {j a b : Nat} : mv m j a b (j + 1) = b := by unfold mv; rw [if_neg (by (first | lia | omega)), if_pos rfl]
theorem mv_n {m : Nat → Nat} {j a b c : Nat} (h1 : c ≠ j) (h2 : c ≠ j + 1) : mv m j a b c = m c := by unfold mv; rw [if_neg h1, if_neg h2]
theorem lo_s {m : Nat → Nat} {j : Nat} : lo m (j + 1) = lo m j + m j + 1 := rfl
theorem lo_mv1 {m : Nat → Nat} {j a b : Nat} : ∀ {c : Nat}, c ≤ j → lo (mv m j a b) c = lo m c := by
  intro c
  induction c with
  | zero => intro _; rfl
  | succ c ih => intro h; rw [lo_s, lo_s, ih (by (first | lia | omega)), mv_n (by (first | lia | omega)) (by (first | lia | omega))]
theorem lo_mv2 {m : Nat → Nat} {j a b : Nat} (e : a + b = m j + m (j + 1)) : ∀ {c : Nat}, j + 2 ≤ c → lo (mv m j a b) c = lo m c := by
  intro c
  induction c with
  | zero => intro h; (first | lia | omega)
  | succ c ih =>
    intro h
    by_cases q : c = j + 1
    · subst q
      rw [lo_s, lo_s, mv_1, lo_s, lo_s, lo_mv1 (Nat.le_refl _), mv_0]
      (first | lia | omega)
    · rw [lo_s, lo_s, ih (by (first | lia | omega)), mv_n (by (first | lia | omega)) (by (first | lia | omega))]
theorem lo_mg1 {m : Nat → Nat} {j : Nat} : ∀ {c : Nat}, c ≤ j → lo (mg m j) c = lo m c := by
  intro c
  induction c with
  | zero => intro _; rfl
  | succ c ih => intro h; rw [lo_s, lo_s, ih (by (first | lia | omega))]; unfold mg; rw [if_pos (by (first | lia | omega))]
theorem mg_0 {m : Nat → Nat} {j : Nat} : mg m j j = m j + m (j + 1) + 1 := by unfold mg; rw [if_neg (by (first | lia | omega)), if_pos rfl]
theorem mg_1 {m : Nat → Nat} {j c : Nat} (h : c < j) : mg m j c = m c := by unfold mg; rw [if_pos h]
theorem mg_2 {m : Nat → Nat} {j c : Nat} (h : j < c) : mg m j c = m (c + 1) := by unfold mg; rw [if_neg (by (first | lia | omega)), if_neg (by (first | lia | omega))]
theorem lo_mg2 {m : Nat → Nat} {j : Nat} : ∀ {c : Nat}, j + 1 ≤ c → lo (mg m j) c = lo m (c + 1) := by
  intro c
  induction c with
  | zero => intro h; (first | lia | omega)
  | succ c ih =>
    intro h
    by_cases q : c = j
    · subst q
      rw [lo_s, lo_s (j := c + 1), lo_s (j := c), mg_0, lo_mg1 (Nat.le_refl _)]
      (first | lia | omega)
    · rw [lo_s, lo_s (j := c + 1), ih (by (first | lia | omega)), mg_2 (by (first | lia | omega))]
theorem sepL_get {w n c : Nat} {m : Nat → Nat} (h : c < n - 1) : (sepL w m n)[c]? = some (pl w (lo m c + m c)) := by unfold sepL; rw [List.getElem?_map, List.getElem?_range h]; rfl
theorem sepL_mv {w n j a b : Nat} {m : Nat → Nat} (e : a + b = m j + m (j + 1)) (hj : j + 1 < n) : sepL w (mv m j a b) n = (sepL w m n).set j (pl w (lo m j + a)) := by
  refine List.ext_getElem? fun c => ?_
  by_cases hc : c < n - 1
  · rw [sepL_get hc]
    by_cases q : c = j
    · subst q
      rw [List.getElem?_set_self (by rw [sepL_len]; exact hc), mv_0, lo_mv1 (Nat.le_refl _)]
    · rw [List.getElem?_set_ne (Ne.symm q), sepL_get hc]
      by_cases q1 : c = j + 1
      · subst q1
        rw [mv_1, lo_s, lo_s, lo_mv1 (Nat.le_refl _), mv_0]
        congr 2
        (first | lia | omega)
      · rw [mv_n q q1]
        by_cases q2 : c ≤ j
        · rw [lo_mv1 q2]
        · rw [lo_mv2 e (by (first | lia | omega))]
  · rw [List.getElem?_eq_none (by rw [sepL_len]; (first | lia | omega)), List.getElem?_eq_none (by rw [List.length_set, sepL_len]; (first | lia | omega))]
theorem del_get {α : Type} {l : List α} {i c : Nat} (hi : i < l.length) : (del l i)[c]? = if c < i then l[c]? else l[c + 1]? := by
  unfold del
  by_cases h : c < i
  · rw [if_pos h, List.getElem?_append_left (by rw [List.length_take]; (first | lia | omega)), List.getElem?_take, if_pos h]
  · rw [if_neg h, List.getElem?_append_right (by rw [List.length_take]; (first | lia | omega)), List.length_take, List.getElem?_drop]
    congr 1
    (first | lia | omega)
theorem del_len {α : Type} {l : List α} {i : Nat} (hi : i < l.length) : (del l i).length = l.length - 1 := by
  unfold del
  rw [List.length_append, List.length_take, List.length_drop]
  (first | lia | omega)
theorem del_mem {α : Type} {l : List α} {i : Nat} {x : α} (h : x ∈ del l i) : x ∈ l := by
  unfold del at h
  rcases List.mem_append.mp h with h | h
  · exact List.mem_of_mem_take h
  · exact List.mem_of_mem_drop h
theorem del_nodup {l : List Nat} {i : Nat} (h : l.Nodup) : (del l i).Nodup := by
  unfold del
  rw [← List.eraseIdx_eq_take_drop_succ]
  exact h.sublist (List.eraseIdx_sublist l i)
theorem sepL_mg {w n j : Nat} {m : Nat → Nat} (hj : j + 1 < n) : sepL w (mg m j) (n - 1) = del (sepL w m n) j := by
  refine List.ext_getElem? fun c => ?_
  rw [del_get (by rw [sepL_len]; (first | lia | omega))]
  by_cases hc : c < n - 1 - 1
  · rw [sepL_get hc]
    by_cases q : c < j
    · rw [if_pos q, sepL_get (by (first | lia | omega)), mg_1 q, lo_mg1 (by (first | lia | omega))]
    · rw [if_neg q, sepL_get (by (first | lia | omega))]
      by_cases q1 : c = j
      · subst q1
        rw [mg_0, lo_mg1 (Nat.le_refl _), lo_s]
        congr 2
        (first | lia | omega)
      · rw [mg_2 (by (first | lia | omega)), lo_mg2 (by (first | lia | omega))]
  · rw [List.getElem?_eq_none (by rw [sepL_len]; (first | lia | omega)), if_neg (by (first | lia | omega)), List.getElem?_eq_none (by rw [sepL_len]; (first | lia | omega))]
theorem seg_app {w s a b : Nat} : seg w s (a + b) = seg w s a ++ seg w (s + a) b := by unfold seg; rw [← List.map_append, List.range'_append_1]
theorem seg_take {w s a b : Nat} : (seg w s (a + b)).take a = seg w s a := by rw [seg_app, List.take_left' seg_len]
theorem seg_drop {w s a b : Nat} : (seg w s (a + b)).drop a = seg w (s + a) b := by rw [seg_app, List.drop_left' seg_len]
theorem LL_take {all : List Nat} {s a b : Nat} : (LL all s (a + b)).take a = LL all s a := by unfold LL; rw [List.take_take, Nat.min_eq_left (Nat.le_add_right _ _)]
theorem LL_drop {all : List Nat} {s a b : Nat} : (LL all s (a + b)).drop a = LL all (s + a) b := by unfold LL; rw [List.drop_take, List.drop_drop, Nat.add_sub_cancel_left]
theorem LL_join {all : List Nat} {s a b : Nat} : LL all s a ++ LL all (s + a) b = LL all s (a + b) := by
  rw [← LL_take (b := b), ← LL_drop (s := s), List.take_append_drop]
noncomputable def Keep (G G' : Heap) : Prop := ∀ b o, G b = some o → (∀ fs, o ≠ .inst 0 fs) → G' b = some o
theorem keep_of {A : List Nat} {G G' : Heap} (f : Frame A G G') (i : ∀ b ∈ A, ∃ fs, G b = some (.inst 0 fs)) : Keep G G' := fun b o e hx => f b o e fun q => by
  obtain ⟨fs, e'⟩ := i b q
  rw [e] at e'; exact hx fs (Option.some.inj e')
theorem nd_inst {G : Heap} {a : Nat} {ks : List Int} {vs cs : List V} (h : NodeAt G a ks vs cs) : ∃ fs, G a = some (.inst 0 fs) := let ⟨_, _, _, e, _⟩ := h; ⟨_, e⟩
theorem insts_of {A : List Nat} {G : Heap} (i : ∀ b ∈ A, ∃ fs, G b = some (.inst 0 fs)) : Insts A G := fun b hb => let ⟨fs, e⟩ := i b hb; ⟨0, fs, e⟩
theorem Des.two {G G' : Heap} {base top : Int} {w n j a b : Nat} {m : Nat → Nat} {pa l c : Nat} {kids all : List Nat} (f : Des G base top w n m pa kids all) (hj : j + 1 < n) (e : a + b = m j + m (j + 1)) (k0 : kids[j]? = some l) (k1 : kids[j + 1]? = some c)
    (fr : Frame [pa, l, c] G G') (ins : ∀ b ∈ [pa, l, c], ∃ fs, G b = some (.inst 0 fs)) (np : NodeAt G' pa (kr base (sepL w (mv m j a b) n)) ((vr top (sepL w (mv m j a b) n)).map V.int) (refs kids))
    (nl : NodeAt G' l (kr base (seg w (lo m j) a)) ((vr top (seg w (lo m j) a)).map V.int) (refs (LL all (lo m j) (a + 1)))) (nc : NodeAt G' c (kr base (seg w (lo m j + a + 1) b)) ((vr top (seg w (lo m j + a + 1) b)).map V.int) (refs (LL all (lo m j + a + 1) (b + 1)))) :
    Des G' base top w n (mv m j a b) pa kids all := by
  have ii := insts_of ins
  have notin : ∀ x, x ∈ all → x ∉ [pa, l, c] := fun x hx q => by
    simp only [List.mem_cons, List.not_mem_nil, or_false] at q
    rcases q with rfl | rfl | rfl
    · exact f.pl hx
    · exact f.g.sp _ hx (List.mem_of_getElem? k0)
    · exact f.g.sp _ hx (List.mem_of_getElem? k1)
  refine ⟨⟨f.g.lk, fun i k h => ?_, f.g.a0, fun h => by rw [f.g.a1 h, lo_mv2 e (by (first | lia | omega))], fun i x h => (f.g.lf i x h).frame fr ii (notin x (List.mem_of_getElem? h)), f.g.dist, f.g.sp⟩, np, f.pk, f.pl⟩
  by_cases q0 : i = j
  · subst q0
    rw [k0] at h; cases h
    rw [mv_0, lo_mv1 (Nat.le_refl _)]
    exact nl
  · by_cases q1 : i = j + 1
    · subst q1
      rw [k1] at h; cases h
      rw [mv_1, lo_s, lo_mv1 (Nat.le_refl _), mv_0]
      exact nc
    · have el : lo (mv m j a b) i = lo m i := by
        by_cases q2 : i ≤ j
        · exact lo_mv1 q2
        · exact lo_mv2 e (by (first | lia | omega))
      rw [el, mv_n q0 q1]
      refine (f.g.nd i k h).frame fr ii fun q => ?_
      have hil := lt_of_get h
      simp only [List.mem_cons, List.not_mem_nil, or_false] at q
      rcases q with rfl | rfl | rfl
      · exact f.pk (List.mem_of_getElem? h)
      · exact q0 ((List.getElem?_inj hil f.g.dist).mp (by rw [h, k0]))
      · exact q1 ((List.getElem?_inj hil f.g.dist).mp (by rw [h, k1]))
theorem Des.mrg {G G' : Heap} {base top : Int} {w n j : Nat} {m : Nat → Nat} {pa l : Nat} {kids all : List Nat} (f : Des G base top w n m pa kids all) (hj : j + 1 < n) (k0 : kids[j]? = some l)
    (fr : Frame [pa, l] G G') (ins : ∀ b ∈ [pa, l], ∃ fs, G b = some (.inst 0 fs)) (np : NodeAt G' pa (kr base (sepL w (mg m j) (n - 1))) ((vr top (sepL w (mg m j) (n - 1))).map V.int) (refs (del kids (j + 1))))
    (nl : NodeAt G' l (kr base (seg w (lo m j) (m j + m (j + 1) + 1))) ((vr top (seg w (lo m j) (m j + m (j + 1) + 1))).map V.int) (refs (LL all (lo m j) (m j + m (j + 1) + 1 + 1)))) :
    Des G' base top w (n - 1) (mg m j) pa (del kids (j + 1)) all := by
  have ii := insts_of ins
  have lk := f.g.lk
  have notin : ∀ x, x ∈ all → x ∉ [pa, l] := fun x hx q => by
    simp only [List.mem_cons, List.not_mem_nil, or_false] at q
    rcases q with rfl | rfl
    · exact f.pl hx
    · exact f.g.sp _ hx (List.mem_of_getElem? k0)
  refine ⟨⟨by rw [del_len (by (first | lia | omega)), lk], fun i k h => ?_, f.g.a0, fun h => by rw [f.g.a1 h, lo_mg2 (by (first | lia | omega))]; congr 1; (first | lia | omega), fun i x h => (f.g.lf i x h).frame fr ii (notin x (List.mem_of_getElem? h)), del_nodup f.g.dist, fun x hx q => f.g.sp x hx (del_mem q)⟩, np, fun q => f.pk (del_mem q), f.pl⟩
  rw [del_get (by (first | lia | omega))] at h
  by_cases q0 : i < j + 1
  · rw [if_pos q0] at h
    have hil := lt_of_get h
    by_cases q1 : i = j
    · subst q1
      rw [k0] at h; cases h
      rw [mg_0, lo_mg1 (Nat.le_refl _)]
      exact nl
    · rw [mg_1 (by (first | lia | omega)), lo_mg1 (by (first | lia | omega))]
      refine (f.g.nd i k h).frame fr ii fun q => ?_
      simp only [List.mem_cons, List.not_mem_nil, or_false] at q
      rcases q with rfl | rfl
      · exact f.pk (List.mem_of_getElem? h)
      · exact q1 ((List.getElem?_inj hil f.g.dist).mp (by rw [h, k0]))
  · rw [if_neg q0] at h
    have hil := lt_of_get h
    rw [mg_2 (by (first | lia | omega)), lo_mg2 (by (first | lia | omega))]
    refine (f.g.nd (i + 1) k h).frame fr ii fun q => ?_
    simp only [List.mem_cons, List.not_mem_nil, or_false] at q
    rcases q with rfl | rfl
    · exact f.pk (List.mem_of_getElem? h)
    · have := (List.getElem?_inj hil f.g.dist).mp (show kids[i + 1]? = kids[j]? by rw [h, k0])
      (first | lia | omega)
theorem kr_len {base : Int} {ps : List Nat} : (kr base ps).length = ps.length := by unfold kr; rw [List.length_map]
theorem vr_len {top : Int} {ps : List Nat} : ((vr top ps).map V.int).length = ps.length := by unfold vr; rw [List.length_map, List.length_map]
theorem kr_get {base : Int} {ps : List Nat} {i x : Nat} (h : ps[i]? = some x) : (kr base ps)[i]? = some (base + x) := by unfold kr; rw [List.getElem?_map, h]; rfl
theorem vr_get {top : Int} {ps : List Nat} {i x : Nat} (h : ps[i]? = some x) : ((vr top ps).map V.int)[i]? = some (.int (top + x * x)) := by unfold vr; rw [List.getElem?_map, List.getElem?_map, h]; rfl
theorem kr_set {base : Int} {ps : List Nat} {i x : Nat} : (kr base ps).set i (base + x) = kr base (ps.set i x) := by unfold kr; rw [List.map_set]
theorem vr_set {top : Int} {ps : List Nat} {i x : Nat} : ((vr top ps).map V.int).set i (.int (top + x * x)) = (vr top (ps.set i x)).map V.int := by unfold vr; rw [List.map_set, List.map_set]
theorem kr_take {base : Int} {ps : List Nat} {i : Nat} : (kr base ps).take i = kr base (ps.take i) := by unfold kr; rw [List.map_take]
theorem vr_take {top : Int} {ps : List Nat} {i : Nat} : ((vr top ps).map V.int).take i = (vr top (ps.take i)).map V.int := by unfold vr; rw [List.map_take, List.map_take]
theorem kr_drop {base : Int} {ps : List Nat} {i : Nat} : (kr base ps).drop i = kr base (ps.drop i) := by unfold kr; rw [List.map_drop]
theorem vr_drop {top : Int} {ps : List Nat} {i : Nat} : ((vr top ps).map V.int).drop i = (vr top (ps.drop i)).map V.int := by unfold vr; rw [List.map_drop, List.map_drop]
theorem kr_app {base : Int} {l r : List Nat} : kr base l ++ kr base r = kr base (l ++ r) := by unfold kr; rw [List.map_append]
theorem vr_app {top : Int} {l r : List Nat} : (vr top l).map V.int ++ (vr top r).map V.int = (vr top (l ++ r)).map V.int := by unfold vr; rw [List.map_append, List.map_append]
theorem refs_take {l : List Nat} {i : Nat} : (refs l).take i = refs (l.take i) := by unfold refs; rw [List.map_take]
theorem refs_drop {l : List Nat} {i : Nat} : (refs l).drop i = refs (l.drop i) := by unfold refs; rw [List.map_drop]
theorem seg_get {w s m c : Nat} (h : c < m) : (seg w s m)[c]? = some (pl w (s + c)) := by unfold seg; rw [List.getElem?_map, List.getElem?_range' h, Nat.one_mul]; rfl
section
variable {T : Nat → Option Fn} (S : Sys T)
theorem op_left (h4 : T 4 = some f_lay) (h5 : T 5 = some f_row_with) (h13 : T 13 = some f_borrow_from_left) {G : Heap} {base top : Int} {w n j a : Nat} {m : Nat → Nat} {pa : Nat} {kids all : List Nat} {self : V} {Q : PV} (f : Des G base top w n m pa kids all) (hj : j + 1 < n) (ha : m j = a + 1) (hn : n ≤ 50) (hm : ∀ j, j < n → m j ≤ 50)
    (k : ∀ G', Keep G G' → Des G' base top w n (mv m j a (m (j + 1) + 1)) pa kids all → Q .none G') : S.Φ 13 [self, .ref pa, .int ((j : Int) + 1)] G Q := by
  have lk := f.g.lk
  have k0 : kids[j]? = some (kids[j]'(by (first | lia | omega))) := List.getElem?_eq_getElem _
  have k1 : kids[j + 1]? = some (kids[j + 1]'(by (first | lia | omega))) := List.getElem?_eq_getElem _
  generalize kids[j]'(by (first | lia | omega)) = l at k0
  generalize kids[j + 1]'(by (first | lia | omega)) = c at k1
  have nl := f.g.nd j l k0
  have nc := f.g.nd (j + 1) c k1
  have hm0 := hm j (by (first | lia | omega))
  have hm1 := hm (j + 1) (by (first | lia | omega))
  have dl : pa ≠ l := fun q => f.pk (q ▸ List.mem_of_getElem? k0)
  have dc : pa ≠ c := fun q => f.pk (q ▸ List.mem_of_getElem? k1)
  have lc : l ≠ c := fun q => by
    have := (List.getElem?_inj (lt_of_get k0) f.g.dist).mp (show kids[j]? = kids[j + 1]? by rw [k0, k1, q])
    (first | lia | omega)
  have gs : (sepL w m n)[j]? = some (pl w (lo m j + m j)) := sepL_get (by (first | lia | omega))
  have gl : (seg w (lo m j) (m j))[a]? = some (pl w (lo m j + a)) := seg_get (by (first | lia | omega))
  have zL : (refs (LL all (lo m j) (m j + 1))).length ≤ 100001 := by rw [refs_len]; exact Nat.le_trans LL_len_le (by (first | lia | omega))
  have zC : (refs (LL all (lo m (j + 1)) (m (j + 1) + 1))).length ≤ 100001 := by rw [refs_len]; exact Nat.le_trans LL_len_le (by (first | lia | omega))
  refine spec_borrowL S h4 h5 h13 (n := a) f.par nl nc (refs_get k0) (refs_get k1) (kr_get gs) (vr_get gs) (by rw [kr_len, seg_len, ha]) (kr_get gl) (vr_get gl) dl dc lc (by rw [kr_len, sepL_len]; (first | lia | omega)) (by rw [vr_len, sepL_len]; (first | lia | omega)) (by rw [refs_len]; (first | lia | omega)) (by rw [kr_len, seg_len]; (first | lia | omega)) (by rw [vr_len, seg_len]; (first | lia | omega)) zL (by rw [kr_len, seg_len]; (first | lia | omega)) (by rw [vr_len, seg_len]; (first | lia | omega)) zC fun G' np' nl' nc' fr => ?_
  have ins : ∀ b ∈ [pa, l, c], ∃ fs, G b = some (.inst 0 fs) := fun b hb => by
    simp only [List.mem_cons, List.not_mem_nil, or_false] at hb
    rcases hb with rfl | rfl | rfl
    · exact nd_inst f.par
    · exact nd_inst nl
    · exact nd_inst nc
  have es : a + (m (j + 1) + 1) = m j + m (j + 1) := by (first | lia | omega)
  refine k G' (keep_of fr ins) (f.two hj es k0 k1 fr ins ?_ ?_ ?_)
  · rw [sepL_mv es hj, ← kr_set, ← vr_set]
    exact np'
  · rw [kr_take, vr_take, refs_take, ha, seg_take, LL_take] at nl'
    exact nl'
  · have e1 : (base + ((pl w (lo m j + m j) : Nat) : Int)) :: kr base (seg w (lo m (j + 1)) (m (j + 1))) = kr base (seg w (lo m j + a + 1) (m (j + 1) + 1)) := by
      rw [Nat.add_comm (m (j + 1)) 1, seg_app, lo_s, ha]; rfl
    have e2 : V.int (top + ((pl w (lo m j + m j) : Nat) : Int) * ((pl w (lo m j + m j) : Nat) : Int)) :: (vr top (seg w (lo m (j + 1)) (m (j + 1)))).map V.int = (vr top (seg w (lo m j + a + 1) (m (j + 1) + 1))).map V.int := by
      rw [Nat.add_comm (m (j + 1)) 1, seg_app, lo_s, ha]; rfl
    rw [e1, e2, refs_drop, ← refs_app, ha, LL_drop, lo_s, ha, show lo m j + (a + 1) + 1 = lo m j + (a + 1) + 1 from rfl, LL_join, Nat.add_comm 1] at nc'
    exact nc'
theorem op_right (h4 : T 4 = some f_lay) (h5 : T 5 = some f_row_with) (h14 : T 14 = some f_borrow_from_right) {G : Heap} {base top : Int} {w n j b : Nat} {m : Nat → Nat} {pa : Nat} {kids all : List Nat} {self : V} {Q : PV} (f : Des G base top w n m pa kids all) (hj : j + 1 < n) (hb : m (j + 1) = b + 1) (hn : n ≤ 50) (hm : ∀ j, j < n → m j ≤ 50)
    (k : ∀ G', Keep G G' → Des G' base top w n (mv m j (m j + 1) b) pa kids all → Q .none G') : S.Φ 14 [self, .ref pa, .int (j : Int)] G Q := by
  have lk := f.g.lk
  have k0 : kids[j]? = some (kids[j]'(by (first | lia | omega))) := List.getElem?_eq_getElem _
  have k1 : kids[j + 1]? = some (kids[j + 1]'(by (first | lia | omega))) := List.getElem?_eq_getElem _
  generalize kids[j]'(by (first | lia | omega)) = l at k0
  generalize kids[j + 1]'(by (first | lia | omega)) = c at k1
  have nl := f.g.nd j l k0
  have nc := f.g.nd (j + 1) c k1
  have hm0 := hm j (by (first | lia | omega))
  have hm1 := hm (j + 1) (by (first | lia | omega))
  have dl : pa ≠ l := fun q => f.pk (q ▸ List.mem_of_getElem? k0)
  have dc : pa ≠ c := fun q => f.pk (q ▸ List.mem_of_getElem? k1)
  have lc : l ≠ c := fun q => by
    have := (List.getElem?_inj (lt_of_get k0) f.g.dist).mp (show kids[j]? = kids[j + 1]? by rw [k0, k1, q])
    (first | lia | omega)
  have gs : (sepL w m n)[j]? = some (pl w (lo m j + m j)) := sepL_get (by (first | lia | omega))
  have gl : (seg w (lo m (j + 1)) (m (j + 1)))[0]? = some (pl w (lo m (j + 1))) := seg_get (by (first | lia | omega))
  have zL : (refs (LL all (lo m j) (m j + 1))).length ≤ 100001 := by rw [refs_len]; exact Nat.le_trans LL_len_le (by (first | lia | omega))
  have zC : (refs (LL all (lo m (j + 1)) (m (j + 1) + 1))).length ≤ 100001 := by rw [refs_len]; exact Nat.le_trans LL_len_le (by (first | lia | omega))
  refine spec_borrowR S h4 h5 h14 f.par nl nc (refs_get k0) (refs_get k1) (kr_get gs) (vr_get gs) (kr_get gl) (vr_get gl) dl dc lc (by rw [kr_len, sepL_len]; (first | lia | omega)) (by rw [vr_len, sepL_len]; (first | lia | omega)) (by rw [refs_len]; (first | lia | omega)) (by rw [kr_len, seg_len]; (first | lia | omega)) (by rw [vr_len, seg_len]; (first | lia | omega)) zC (by rw [kr_len, seg_len]; (first | lia | omega)) (by rw [vr_len, seg_len]; (first | lia | omega)) zL fun G' np' nl' nc' fr => ?_
  have ins : ∀ b ∈ [pa, l, c], ∃ fs, G b = some (.inst 0 fs) := fun b hb => by
    simp only [List.mem_cons, List.not_mem_nil, or_false] at hb
    rcases hb with rfl | rfl | rfl
    · exact nd_inst f.par
    · exact nd_inst nl
    · exact nd_inst nc
  have es : m j + 1 + b = m j + m (j + 1) := by (first | lia | omega)
  refine k G' (keep_of fr ins) (f.two hj es k0 k1 fr ins ?_ ?_ ?_)
  · rw [sepL_mv es hj, ← kr_set, ← vr_set]
    exact np'
  · have e1 : kr base (seg w (lo m j) (m j)) ++ [base + ((pl w (lo m j + m j) : Nat) : Int)] = kr base (seg w (lo m j) (m j + 1)) := by
      rw [seg_app, ← kr_app]; rfl
    have e2 : (vr top (seg w (lo m j) (m j))).map V.int ++ [V.int (top + ((pl w (lo m j + m j) : Nat) : Int) * ((pl w (lo m j + m j) : Nat) : Int))] = (vr top (seg w (lo m j) (m j + 1))).map V.int := by
      rw [seg_app, ← vr_app]; rfl
    rw [e1, e2, refs_take, ← refs_app, Nat.add_comm (m (j + 1)) 1, LL_take, lo_s, Nat.add_assoc (lo m j), LL_join] at nl'
    exact nl'
  · rw [kr_drop, vr_drop, refs_drop, hb, Nat.add_comm b 1, seg_drop, Nat.add_comm (1 + b) 1, LL_drop, lo_s] at nc'
    rw [Nat.add_comm 1 b] at nc'
    exact nc'
theorem op_merge (h4 : T 4 = some f_lay) (h6 : T 6 = some f_row_without) (h12 : T 12 = some f_merge_children) {G : Heap} {base top : Int} {w n j : Nat} {m : Nat → Nat} {pa : Nat} {kids all : List Nat} {self : V} {Q : PV} (f : Des G base top w n m pa kids all) (hj : j + 1 < n) (hn : n ≤ 50) (hm : ∀ j, j < n → m j ≤ 50)
    (k : ∀ G', Keep G G' → Des G' base top w (n - 1) (mg m j) pa (del kids (j + 1)) all → Q .none G') : S.Φ 12 [self, .ref pa, .int (j : Int)] G Q := by
  have lk := f.g.lk
  have k0 : kids[j]? = some (kids[j]'(by (first | lia | omega))) := List.getElem?_eq_getElem _
  have k1 : kids[j + 1]? = some (kids[j + 1]'(by (first | lia | omega))) := List.getElem?_eq_getElem _
  generalize kids[j]'(by (first | lia | omega)) = l at k0
  generalize kids[j + 1]'(by (first | lia | omega)) = c at k1
  have nl := f.g.nd j l k0
  have nc := f.g.nd (j + 1) c k1
  have hm0 := hm j (by (first | lia | omega))
  have hm1 := hm (j + 1) (by (first | lia | omega))
  have dl : pa ≠ l := fun q => f.pk (q ▸ List.mem_of_getElem? k0)
  have gs : (sepL w m n)[j]? = some (pl w (lo m j + m j)) := sepL_get (by (first | lia | omega))
  have zL : (refs (LL all (lo m j) (m j + 1))).length ≤ 100001 := by rw [refs_len]; exact Nat.le_trans LL_len_le (by (first | lia | omega))
  have zC : (refs (LL all (lo m (j + 1)) (m (j + 1) + 1))).length ≤ 100001 := by rw [refs_len]; exact Nat.le_trans LL_len_le (by (first | lia | omega))
  refine spec_merge S h4 h6 h12 f.par nl nc (refs_get k0) (refs_get k1) (kr_get gs) (vr_get gs) dl (by (first | lia | omega)) (by rw [kr_len, sepL_len]; (first | lia | omega)) (by rw [vr_len, sepL_len]; (first | lia | omega)) (by rw [refs_len]; (first | lia | omega)) (by rw [kr_len, seg_len]; (first | lia | omega)) (by rw [vr_len, seg_len]; (first | lia | omega)) zL (by rw [kr_len, seg_len]; (first | lia | omega)) (by rw [vr_len, seg_len]; (first | lia | omega)) zC fun G' np' nl' fr => ?_
  have ins : ∀ b ∈ [pa, l], ∃ fs, G b = some (.inst 0 fs) := fun b hb => by
    simp only [List.mem_cons, List.not_mem_nil, or_false] at hb
    rcases hb with rfl | rfl
    · exact nd_inst f.par
    · exact nd_inst nl
  refine k G' (keep_of fr ins) (f.mrg hj k0 fr ins ?_ ?_)
  · have q1 : kr base (del (sepL w m n) j) = del (kr base (sepL w m n)) j := by unfold kr; rw [del_map]
    have q2 : (vr top (del (sepL w m n) j)).map V.int = del ((vr top (sepL w m n)).map V.int) j := by rw [← del_map]; unfold vr; rw [del_map]
    have q3 : refs (del kids (j + 1)) = del (refs kids) (j + 1) := by unfold refs; rw [del_map]
    rw [sepL_mg hj, q1, q2, q3]
    exact np'
  · have es : seg w (lo m j) (m j + m (j + 1) + 1) = seg w (lo m j) (m j) ++ [pl w (lo m j + m j)] ++ seg w (lo m (j + 1)) (m (j + 1)) := by
      rw [show m j + m (j + 1) + 1 = m j + 1 + m (j + 1) by (first | lia | omega), seg_app, seg_app]; rfl
    have e1 : kr base (seg w (lo m j) (m j)) ++ [base + ((pl w (lo m j + m j) : Nat) : Int)] ++ kr base (seg w (lo m (j + 1)) (m (j + 1))) = kr base (seg w (lo m j) (m j + m (j + 1) + 1)) := by
      rw [es, ← kr_app, ← kr_app]; rfl
    have e2 : (vr top (seg w (lo m j) (m j))).map V.int ++ [V.int (top + ((pl w (lo m j + m j) : Nat) : Int) * ((pl w (lo m j + m j) : Nat) : Int))] ++ (vr top (seg w (lo m (j + 1)) (m (j + 1)))).map V.int = (vr top (seg w (lo m j) (m j + m (j + 1) + 1))).map V.int := by
      rw [es, ← vr_app, ← vr_app]; rfl
    rw [e1, e2, ← refs_app, lo_s, Nat.add_assoc (lo m j), LL_join, show m j + 1 + (m (j + 1) + 1) = m j + m (j + 1) + 1 + 1 by (first | lia | omega)] at nl'
    exact nl'
end
noncomputable def fillT : List ML.S := [
  .ite (.cmp .gt (.var 2) (.lit (.int 0))) [
    .expr (.meth 12 (.var 0) [(.var 1), (.bop .sub (.var 2) (.lit (.int 1)))]),
    .ret (some (.bop .sub (.var 2) (.lit (.int 1))))] [],
  .expr (.meth 12 (.var 0) [(.var 1), (.var 2)]),
  .ret (some (.var 2))]
noncomputable def fillR : List ML.S :=
  .ite (.and (.cmp .lt (.var 2) (.bop .sub (.prim .len [(.attr (.var 1) 2)]) (.lit (.int 1)))) (.cmp .ge (.prim .len [(.attr (.idx (.attr (.var 1) 2) (.bop .add (.var 2) (.lit (.int 1)))) 0)]) (.var 3))) [
    .expr (.meth 14 (.var 0) [(.var 1), (.var 2)]),
    .ret (some (.var 2))] [] :: fillT
noncomputable def fillL : List ML.S :=
  .ite (.and (.cmp .gt (.var 2) (.lit (.int 0))) (.cmp .ge (.prim .len [(.attr (.idx (.attr (.var 1) 2) (.bop .sub (.var 2) (.lit (.int 1)))) 0)]) (.var 3))) [
    .expr (.meth 13 (.var 0) [(.var 1), (.var 2)]),
    .ret (some (.var 2))] [] :: fillR
theorem fill_eq : f_fill_child = ⟨3, 4,
  .assign 3 (.attr (.var 0) 3) ::
  .ite (.or (.cmp .ge (.prim .len [(.attr (.idx (.attr (.var 1) 2) (.var 2)) 0)]) (.var 3)) (.cmp .lt (.prim .len [(.attr (.var 1) 2)]) (.lit (.int 2)))) [
    .ret (some (.var 2))] [] :: fillL⟩ := rfl
inductive Out (t n : Nat) (m : Nat → Nat) (kids : List Nat) (i : Nat) : Nat → Nat → (Nat → Nat) → List Nat → Prop where
  | same (h : t ≤ m i ∨ n < 2) : Out t n m kids i i n m kids
  | left (j a : Nat) (hi : i = j + 1) (h : m i < t) (hj : t ≤ m j) (ha : m j = a + 1) : Out t n m kids i i n (mv m j a (m (j + 1) + 1)) kids
  | right (b : Nat) (h : m i < t) (hl : ∀ j, i = j + 1 → m j < t) (hn : i + 1 < n) (hr : t ≤ m (i + 1)) (hb : m (i + 1) = b + 1) : Out t n m kids i i n (mv m i (m i + 1) b) kids
  | mergeL (j : Nat) (hi : i = j + 1) (h : m i < t) (hl : m j < t) (hr : i + 1 < n → m (i + 1) < t) : Out t n m kids i j (n - 1) (mg m j) (del kids (j + 1))
  | merge0 (hi : i = 0) (h : m i < t) (hn : 1 < n) (hr : m 1 < t) : Out t n m kids i 0 (n - 1) (mg m 0) (del kids (0 + 1))
section
variable {T : Nat → Option Fn} (S : Sys T)
theorem kid_len {G : Heap} {base top : Int} {w n i : Nat} {m : Nat → Nat} {pa : Nat} {kids all : List Nat} {Q : PV} (f : Des G base top w n m pa kids all) (hi : i < n) (hn : n ≤ 50) (k : Q (.int (m i : Nat)) G) :
    attrW (.ref pa) 2 G fun v => idxW v (.int (i : Int)) G fun u => attrW u 0 G fun x => primW .len [x] G Q := by
  have lk := f.g.lk
  have k0 : kids[i]? = some (kids[i]'(by (first | lia | omega))) := List.getElem?_eq_getElem _
  generalize kids[i]'(by (first | lia | omega)) = l at k0
  refine at_c f.par fun p hp => v_idxN hp rfl (by (first | lia | omega)) (refs_get k0) (at_k (f.g.nd i l k0) fun q hq => v_len hq rfl ?_)
  rw [List.length_map, kr_len, seg_len]
  exact k
theorem fillT_ok (h4 : T 4 = some f_lay) (h6 : T 6 = some f_row_without) (h12 : T 12 = some f_merge_children) {G : Heap} {base top : Int} {w n i t cn : Nat} {m : Nat → Nat} {pa : Nat} {kids all : List Nat} {c1 c2 : V} {Q : PV} (f : Des G base top w n m pa kids all) (hc : G cn = some (.inst 1 [(3, .int t), (4, c1), (5, c2)])) (hn : n ≤ 50) (hm : ∀ j, j < n → m j ≤ 50) (hi : i < n) (hn2 : 1 < n) (hit : m i < t) (hl : ∀ j, i = j + 1 → m j < t) (hr : i + 1 < n → m (i + 1) < t)
    (k : ∀ G' i' n' m' kids', Keep G G' → Out t n m kids i i' n' m' kids' → Des G' base top w n' m' pa kids' all → Q (.int (i' : Nat)) G') :
    wpSs S.Φ fillT [some (.ref cn), some (.ref pa), some (.int i), some (.int t)] G (fun fl _ H' => ∃ H'', H''.le H' ∧ Q fl.val H'') := by
  unfold fillT
  walk_at "n"
  cases i with
  | zero =>
    refine v_ifF (decide_eq_false (by (first | lia | omega))) ?_
    refine n_nil (n_then ?_)
    walk_at "n"
    refine v_isInst hc ?_
    refine op_merge S h4 h6 h12 f (j := 0) (by (first | lia | omega)) hn hm fun G' kp d => ?_
    walk_at "m"
    walk_at "n"
    exact end_ret rfl (k G' 0 _ _ _ kp (.merge0 rfl hit hn2 (hr (by (first | lia | omega)))) d)
  | succ j =>
    refine v_ifT (decide_eq_true (by (first | lia | omega))) ?_
    have ej : (((j + 1 : Nat) : Int) - 1) = j := by (first | lia | omega)
    walk_at "n"
    rw [ej]
    refine v_isInst hc ?_
    refine op_merge S h4 h6 h12 f (j := j) (by (first | lia | omega)) hn hm fun G' kp d => ?_
    walk_at "m"
    walk_at "n"
    rw [ej]
    exact end_ret rfl (k G' j _ _ _ kp (.mergeL j rfl hit (hl j rfl) hr) d)
theorem fillR_ok (h4 : T 4 = some f_lay) (h5 : T 5 = some f_row_with) (h6 : T 6 = some f_row_without) (h12 : T 12 = some f_merge_children) (h14 : T 14 = some f_borrow_from_right) {G : Heap} {base top : Int} {w n i t cn : Nat} {m : Nat → Nat} {pa : Nat} {kids all : List Nat} {c1 c2 : V} {Q : PV} (f : Des G base top w n m pa kids all) (hc : G cn = some (.inst 1 [(3, .int t), (4, c1), (5, c2)])) (ht : 1 ≤ t) (hn : n ≤ 50) (hm : ∀ j, j < n → m j ≤ 50) (hi : i < n) (hn2 : 1 < n) (hit : m i < t) (hl : ∀ j, i = j + 1 → m j < t)
    (k : ∀ G' i' n' m' kids', Keep G G' → Out t n m kids i i' n' m' kids' → Des G' base top w n' m' pa kids' all → Q (.int (i' : Nat)) G') :
    wpSs S.Φ fillR [some (.ref cn), some (.ref pa), some (.int i), some (.int t)] G (fun fl _ H' => ∃ H'', H''.le H' ∧ Q fl.val H'') := by
  have lk := f.g.lk
  unfold fillR
  walk_at "n"
  refine at_c f.par fun p hp => v_len hp rfl ?_
  rw [refs_len, lk]
  walk_at "m"
  refine v_if (fun e => ?_) fun e => ?_
  · have e := of_decide_eq_true e
    have ei : (i : Int) + 1 = ((i + 1 : Nat) : Int) := rfl
    rw [ei]
    refine kid_len f (i := i + 1) (by (first | lia | omega)) hn ?_
    walk_at "m"
    refine v_if (fun e2 => ?_) fun e2 => ?_
    · have e2 := of_decide_eq_true e2
      obtain ⟨b, hb⟩ : ∃ b, m (i + 1) = b + 1 := ⟨m (i + 1) - 1, by (first | lia | omega)⟩
      walk_at "n"
      refine v_isInst hc ?_
      refine op_right S h4 h5 h14 f (by (first | lia | omega)) hb hn hm fun G' kp d => ?_
      walk_at "m"
      walk_at "n"
      exact end_ret rfl (k G' i _ _ _ kp (.right b hit hl (by (first | lia | omega)) (by (first | lia | omega)) hb) d)
    · have e2 := of_decide_eq_false e2
      refine n_nil (n_then (fillT_ok S h4 h6 h12 f hc hn hm hi hn2 hit hl (fun _ => by (first | lia | omega)) k))
  · have e := of_decide_eq_false e
    refine n_nil (n_then (fillT_ok S h4 h6 h12 f hc hn hm hi hn2 hit hl (fun _ => by (first | lia | omega)) k))
theorem spec_fill (h4 : T 4 = some f_lay) (h5 : T 5 = some f_row_with) (h6 : T 6 = some f_row_without) (h12 : T 12 = some f_merge_children) (h13 : T 13 = some f_borrow_from_left) (h14 : T 14 = some f_borrow_from_right) (h15 : T 15 = some f_fill_child) {G : Heap} {base top : Int} {w n i t cn : Nat} {m : Nat → Nat} {pa : Nat} {kids all : List Nat} {c1 c2 : V} {Q : PV} (f : Des G base top w n m pa kids all) (hc : G cn = some (.inst 1 [(3, .int t), (4, c1), (5, c2)])) (ht : 1 ≤ t) (hn : n ≤ 50) (hm : ∀ j, j < n → m j ≤ 50) (hi : i < n)
    (k : ∀ G' i' n' m' kids', Keep G G' → Out t n m kids i i' n' m' kids' → Des G' base top w n' m' pa kids' all → Q (.int (i' : Nat)) G') : S.Φ 15 [.ref cn, .ref pa, .int i] G Q := by
  have lk := f.g.lk
  rw [fill_eq] at h15
  refine S.call h15 rfl ?_
  dsimp only
  walk_at "m"
  walk_at "n"
  refine v_attr hc rfl ?_
  walk_at "n"
  refine kid_len f hi hn ?_
  walk_at "m"
  refine v_if (fun e => ?_) fun e => ?_
  · have e := of_decide_eq_true e
    walk_at "m"
    exact end_ret rfl (k G i _ _ _ (fun _ _ h _ => h) (.same (.inl (by (first | lia | omega)))) f)
  have e := of_decide_eq_false e
  refine at_c f.par fun p hp => v_len hp rfl ?_
  rw [refs_len, lk]
  walk_at "m"
  refine v_if (fun e2 => ?_) fun e2 => ?_
  · have e2 := of_decide_eq_true e2
    exact end_ret rfl (k G i _ _ _ (fun _ _ h _ => h) (.same (.inr (by (first | lia | omega)))) f)
  have e2 := of_decide_eq_false e2
  unfold fillL
  walk_at "n"
  cases i with
  | zero =>
    refine v_ifF (decide_eq_false (by (first | lia | omega))) ?_
    walk_at "m"
    exact n_nil (n_then (fillR_ok S h4 h5 h6 h12 h14 f hc ht hn hm hi (by (first | lia | omega)) (by (first | lia | omega)) (fun j e => by cases e) k))
  | succ j =>
    refine v_ifT (decide_eq_true (by (first | lia | omega))) ?_
    have ej : (((j + 1 : Nat) : Int) - 1) = j := by (first | lia | omega)
    rw [ej]
    refine kid_len f (i := j) (by (first | lia | omega)) hn ?_
    walk_at "m"
    refine v_if (fun e3 => ?_) fun e3 => ?_
    · have e3 := of_decide_eq_true e3
      obtain ⟨a, ha⟩ : ∃ a, m j = a + 1 := ⟨m j - 1, by (first | lia | omega)⟩
      walk_at "n"
      refine v_isInst hc ?_
      refine op_left S h4 h5 h13 f (by (first | lia | omega)) ha hn hm fun G' kp d => ?_
      walk_at "m"
      walk_at "n"
      exact end_ret rfl (k G' (j + 1) _ _ _ kp (.left j a rfl (by (first | lia | omega)) (by (first | lia | omega)) ha) d)
    · have e3 := of_decide_eq_false e3
      exact n_nil (n_then (fillR_ok S h4 h5 h6 h12 h14 f hc ht hn hm hi (by (first | lia | omega)) (by (first | lia | omega)) (fun j' e => by cases e; (first | lia | omega)) k))
end
theorem forp_inv {body : Loc → Heap → PS → Prop} {i : Nat} {ok : Heap → Prop} {ps : List (V × V)} {m : Loc} {H : Heap} {Q : PS} (I : Nat → Loc → Heap → Prop) (h0 : I 0 m H)
    (step : ∀ k x m H (K : Loc → Heap → Prop), ps[k]? = some x → I k m H → (∀ m' H', I (k + 1) m' H' → K m' H') → ok H ∧ ∀ T, H T = none → body (m.set i (some (.ref T))) (H.upd T (.tup [x.1, x.2])) (turnW K Q))
    (fin : ∀ m H, I ps.length m H → ok H ∧ Q .next m H) : forpL body i ok ps m H Q := by
  have key : ∀ ys k m H, ps.drop k = ys → k ≤ ps.length → I k m H → forpL body i ok ys m H Q := by
    intro ys
    induction ys with
    | nil =>
      intro k m H e hk hI
      exact fin m H (Nat.le_antisymm hk (List.drop_eq_nil_iff.mp e) ▸ hI)
    | cons y ys ih =>
      intro k m H e hk hI
      obtain ⟨h1, h2, h3⟩ := drop_head e
      exact step k y m H _ h1 hI fun m' H' hI' => ih (k + 1) m' H' h2 h3 hI'
  exact key ps 0 m H rfl (Nat.zero_le _) h0
noncomputable abbrev isTrue : PS := fun fl _ H' => ∃ H'' : Heap, H''.le H' ∧ fl.val = V.bool true
noncomputable def bodyZ : List ML.S := [
    .ite (.cmp .isnot (.idx (.var 19) (.lit (.int 0))) (.idx (.var 19) (.lit (.int 1)))) [
      .ret (some (.lit (.bool false)))] []]
noncomputable def tailY : List ML.S := [
  .ite (.or (.cmp .isnot (.attr (.var 12) 4) (.var 10)) (.or (.cmp .ne (.attr (.var 12) 5) (.var 9)) (.cmp .ne (.attr (.var 12) 3) (.var 1)))) [
    .ret (some (.lit (.bool false)))] [],
  .ret (some (.lit (.bool true)))]
noncomputable def tailX : List ML.S := .forp 19 (.attr (.var 10) 2) (.var 16) bodyZ :: tailY
noncomputable def tailZ : List ML.S :=
  .assign 18 (.meth 15 (.var 12) [(.var 10), (.var 3)]) ::
  .ite (.or (.not (.prim .tyInt [(.var 18)])) (.cmp .ne (.var 18) (.var 17))) [
    .ret (some (.lit (.bool false)))] [] ::
  .ite (.cmp .ne (.call 54 [(.var 10)]) (.call 54 [(.call 53 [(.var 15), (.var 4), (.var 5), (.var 6)])])) [
    .ret (some (.lit (.bool false)))] [] :: tailX
noncomputable def Plan (t : Nat) (sz kids : List Nat) (i pc : Nat) (wl st : List Nat) : Prop := ∀ i' n' m' kids', Out t sz.length (szf sz) kids i i' n' m' kids' → i' = pc ∧ n' = wl.length ∧ (∀ j, j < n' → m' j = szf wl j) ∧ kids' = st
section
variable {T : Nat → Option Fn} (S : Sys T)
theorem tailX_ok {G : Heap} {t tot : Int} {pa cn p16 : Nat} {st : List Nat} {K : List Int} {X : List V} {x0 x2 x3 x4 x5 x6 x7 x8 x11 x13 x14 x15 x17 x18 x19 : Option V} (par : NodeAt G pa K X (refs st)) (hc : G cn = some (.inst 1 [(3, .int t), (4, .ref pa), (5, .int tot)])) (h16 : G p16 = some (.list (refs st))) :
    wpSs S.Φ tailX [x0, some (.int t), x2, x3, x4, x5, x6, x7, x8, some (.int tot), some (.ref pa), x11, some (.ref cn), x13, x14, x15, some (.ref p16), x17, x18, x19] G isTrue := by
  have hlim : lim = 1000000 := rfl
  unfold tailX
  rw [s_cons, s_forp]
  walk_at "m"
  refine at_c par fun p hp => ?_
  have e1 : (st.map fun x => (V.ref x, V.ref x)).map Prod.fst = refs st := by unfold refs; rw [List.map_map]; rfl
  have e2 : (st.map fun x => (V.ref x, V.ref x)).map Prod.snd = refs st := by unfold refs; rw [List.map_map]; rfl
  refine ⟨st.map fun x => (V.ref x, V.ref x), ⟨by rw [e1]; exact hp, by rw [e2]; exact h16⟩, ?_⟩
  refine forp_inv (fun k m G' => ∃ z, m = [x0, some (.int t), x2, x3, x4, x5, x6, x7, x8, some (.int tot), some (.ref pa), x11, some (.ref cn), x13, x14, x15, some (.ref p16), x17, x18, z] ∧ G.le G')
    ⟨x19, rfl, Heap.le_refl _⟩ (fun k x m G' K' hx hI hK => ?_) fun m G' hI => ?_
  · obtain ⟨z, rfl, L⟩ := hI
    refine ⟨⟨by rw [e1]; exact L _ _ hp, by rw [e2]; exact L _ _ h16⟩, fun T' nT => ?_⟩
    rw [List.getElem?_map] at hx
    obtain ⟨d, hd, rfl⟩ := Option.map_eq_some_iff.mp hx
    have LT := Heap.le_upd (o := .tup [.ref d, .ref d]) nT
    have eT : (G'.upd T' (.tup [.ref d, .ref d])) T' = some (.tup [.ref d, .ref d]) := upd_self
    dsimp only
    generalize G'.upd T' (.tup [.ref d, .ref d]) = G2 at LT eT
    unfold bodyZ
    walk_at "m"
    walk_at "n"
    refine v_idx (v := .ref d) eT rfl (by decide) (by decide) rfl ?_
    refine v_idx (v := .ref d) eT rfl (by decide) (by decide) rfl ?_
    refine v_isRef ?_
    walk_at "m"
    refine n_nil (turn_next (hK _ _ ⟨_, rfl, Heap.le_trans L LT⟩))
  · obtain ⟨z, rfl, L⟩ := hI
    refine ⟨⟨by rw [e1]; exact L _ _ hp, by rw [e2]; exact L _ _ h16⟩, n_then ?_⟩
    unfold tailY
    have hc := L _ _ hc
    walk_at "n"
    refine v_attr hc rfl (v_isRef ?_)
    walk_at "m"
    refine v_attr hc rfl ?_
    walk_at "m"
    refine v_ifF (by simp) ?_
    refine v_attr hc rfl ?_
    walk_at "m"
    refine v_ifF (by simp) ?_
    walk_at "n"
    exact ⟨_, Heap.le_refl _, rfl⟩
theorem tailZ_ok (h0 : T 0 = some f_Node_init) (h4 : T 4 = some f_lay) (h5 : T 5 = some f_row_with) (h6 : T 6 = some f_row_without) (h12 : T 12 = some f_merge_children) (h13 : T 13 = some f_borrow_from_left) (h14 : T 14 = some f_borrow_from_right) (h15 : T 15 = some f_fill_child) (h51 : T 51 = some f__law_node) (h52 : T 52 = some f__law_child) (h53 : T 53 = some f__law_parent) (h54 : T 54 = some f__law_view)
    {G : Heap} {base top tot : Int} {w t i pc pa cn p15 p16 : Nat} {sz wl kids all st : List Nat} {x0 x2 x7 x8 x11 x13 x14 : Option V} (f : Des G base top w sz.length (szf sz) pa kids all) (hc : G cn = some (.inst 1 [(3, .int t), (4, .ref pa), (5, .int tot)])) (e15 : G p15 = some (.list (nats wl))) (e16 : G p16 = some (.list (refs st)))
    (hw : w ≤ 3) (ht : 1 ≤ t) (hi : i < sz.length) (zn : sz.length ≤ 10) (zs : ∀ j, szf sz j ≤ 20) (wn : wl.length ≤ 10) (ws : ∀ j, szf wl j ≤ 20) (wo : lo (szf wl) wl.length ≤ 90) (plan : Plan t sz kids i pc wl st) :
    wpSs S.Φ tailZ [x0, some (.int t), x2, some (.int i), some (.int w), some (.int base), some (.int top), x7, x8, some (.int tot), some (.ref pa), x11, some (.ref cn), x13, x14, some (.ref p15), some (.ref p16), some (.int pc), none, none] G isTrue := by
  have hlim : lim = 1000000 := rfl
  unfold tailZ
  walk_at "n"
  refine v_isInst hc ?_
  refine spec_fill S h4 h5 h6 h12 h13 h14 h15 f hc ht (by (first | lia | omega)) (fun j _ => by have := zs j; (first | lia | omega)) hi fun G1 i' n' m' kids' kp out d => ?_
  obtain ⟨rfl, rfl, hm, rfl⟩ := plan i' n' m' kids' out
  have hc := kp _ _ hc (fun _ q => by cases q)
  have e15 := kp _ _ e15 (fun _ q => by cases q)
  have e16 := kp _ _ e16 (fun _ q => by cases q)
  walk_at "m"
  walk_at "n"
  refine v_ifF (by simp) ?_
  walk_at "n"
  have lk := d.g.lk
  have dm : ∀ j, j < wl.length → m' j ≤ 50 := fun j hj => by rw [hm j hj]; have := ws j; (first | lia | omega)
  refine spec_view S h54 d.par (by (first | lia | omega)) (d.ents (by (first | lia | omega)) dm) fun r1 G2 L2 rd1 => ?_
  refine spec_parent S h0 h51 h52 h53 hw (L2 _ _ e15) wn wo fun pa2 kids2 all2 G3 L3 d2 => ?_
  have lk2 := d2.g.lk
  refine spec_view S h54 d2.par (by (first | lia | omega)) (d2.ents (by (first | lia | omega)) (fun j _ => by have := ws j; (first | lia | omega))) fun r2 G4 L4 rd2 => ?_
  have L34 := Heap.le_trans L3 L4
  rw [ents_congr hm] at rd1
  refine v_neRt (rd_le L34 rd1) rd2 ?_
  walk_at "m"
  have L24 := Heap.le_trans L2 L34
  exact tailX_ok S (NodeAt_le d.par L24) (L24 _ _ hc) (L24 _ _ e16)
end
noncomputable def bsd (i n : Nat) : List Nat := (if 0 < i then [i - 1] else []) ++ (if i + 1 < n then [i + 1] else [])
noncomputable def spr (t : Nat) (sz l : List Nat) : List Nat := l.filter fun j => decide (t ≤ szf sz j)
theorem szf_set {l : List Nat} {i j x : Nat} (h : i < l.length) : szf (l.set i x) j = if i = j then x else szf l j := by
  unfold szf
  rw [List.getElem?_set]
  by_cases q : i = j
  · rw [if_pos q, if_pos h, if_pos q]; rfl
  · rw [if_neg q, if_neg q]
theorem lo_le {m : Nat → Nat} (h : ∀ j, m j ≤ 20) : ∀ n, lo m n ≤ 21 * n := by
  intro n
  induction n with
  | zero => exact Nat.zero_le _
  | succ n ih => rw [lo_s]; have := h n; (first | lia | omega)
theorem bsd_0 {n : Nat} (h : 1 < n) : bsd 0 n = [1] := by unfold bsd; rw [if_neg (by (first | lia | omega)), if_pos (by (first | lia | omega))]; rfl
theorem bsd_00 {n : Nat} (h : ¬ 1 < n) : bsd 0 n = [] := by unfold bsd; rw [if_neg (by (first | lia | omega)), if_neg (by (first | lia | omega))]; rfl
theorem bsd_s {j n : Nat} : bsd (j + 1) n = j :: (if j + 2 < n then [j + 2] else []) := by unfold bsd; rw [if_pos (by (first | lia | omega))]; rfl
theorem spr_c {t : Nat} {sz l : List Nat} {j : Nat} : spr t sz (j :: l) = if t ≤ szf sz j then j :: spr t sz l else spr t sz l := by
  unfold spr
  rw [List.filter_cons]
  by_cases h : t ≤ szf sz j
  · rw [if_pos h, if_pos (decide_eq_true h)]
  · rw [if_neg h, if_neg (by rw [decide_eq_false h]; decide)]
theorem plan_same {t i : Nat} {sz kids : List Nat} (h : ¬ (szf sz i < t ∧ bsd i sz.length ≠ [])) : Plan t sz kids i i sz kids := fun i' n' m' kids' out => by
  cases out with
  | same _ => exact ⟨rfl, rfl, fun _ _ => rfl, rfl⟩
  | left j a hi h1 hj ha => subst hi; exact absurd ⟨h1, by rw [bsd_s]; simp⟩ h
  | right b h1 hl hn hr hb => exact absurd ⟨h1, by unfold bsd; rw [if_pos hn]; simp⟩ h
  | mergeL j hi h1 hl hr => subst hi; exact absurd ⟨h1, by rw [bsd_s]; simp⟩ h
  | merge0 hi h1 hn hr => subst hi; exact absurd ⟨h1, by rw [bsd_0 hn]; simp⟩ h
theorem plan_move {t i s0 a : Nat} {sz kids r : List Nat} (hi' : i < sz.length) (h : szf sz i < t) (hs : spr t sz (bsd i sz.length) = s0 :: r) (ha' : szf sz s0 = a + 1) : Plan t sz kids i i ((sz.set s0 a).set i (szf sz i + 1)) kids := fun i' n' m' kids' out => by
  cases out with
  | same h1 =>
    rcases h1 with h1 | h1
    · (first | lia | omega)
    · have : i = 0 := by (first | lia | omega)
      subst this
      rw [bsd_00 (by (first | lia | omega))] at hs; cases hs
  | left j b hi h1 hj hb =>
    subst hi
    rw [bsd_s, spr_c, if_pos hj] at hs
    cases hs
    have : a = b := by (first | lia | omega)
    subst this
    refine ⟨rfl, by rw [List.length_set, List.length_set], fun c hc => ?_, rfl⟩
    rw [szf_set (by rw [List.length_set]; exact hi'), szf_set (by (first | lia | omega))]
    unfold mv
    by_cases q1 : c = s0
    · rw [if_pos q1, if_neg (by (first | lia | omega)), if_pos q1.symm]
    · rw [if_neg q1]
      by_cases q2 : c = s0 + 1
      · rw [if_pos q2, if_pos q2.symm]
      · rw [if_neg q2, if_neg (Ne.symm q2), if_neg (Ne.symm q1)]
  | right b h1 hl hn hr hb =>
    have e0 : s0 = i + 1 := by
      cases i with
      | zero =>
        rw [bsd_0 (by (first | lia | omega)), spr_c, if_pos hr] at hs
        cases hs; rfl
      | succ j =>
        have := hl j rfl
        rw [bsd_s, spr_c, if_neg (by (first | lia | omega)), if_pos (by (first | lia | omega)), spr_c, if_pos hr] at hs
        cases hs; rfl
    subst e0
    have : a = b := by (first | lia | omega)
    subst this
    refine ⟨rfl, by rw [List.length_set, List.length_set], fun c hc => ?_, rfl⟩
    rw [szf_set (by rw [List.length_set]; exact hi'), szf_set (by (first | lia | omega))]
    unfold mv
    by_cases q1 : c = i
    · rw [if_pos q1, if_pos q1.symm]
    · rw [if_neg q1, if_neg (Ne.symm q1)]
      by_cases q2 : c = i + 1
      · rw [if_pos q2, if_pos q2.symm]
      · rw [if_neg q2, if_neg (Ne.symm q2)]
  | mergeL j hi h1 hl hr =>
    subst hi
    rw [bsd_s, spr_c, if_neg (by (first | lia | omega))] at hs
    by_cases q : i' + 2 < sz.length
    · rw [if_pos q, spr_c, if_neg (by have h9 : szf sz (i' + 2) < t := hr q; (first | lia | omega))] at hs; cases hs
    · rw [if_neg q] at hs; cases hs
  | merge0 hi h1 hn hr =>
    subst hi
    rw [bsd_0 hn, spr_c, if_neg (by (first | lia | omega))] at hs; cases hs
theorem szf_mid {A B : List Nat} {x c : Nat} : szf (A ++ [x] ++ B) c = if c < A.length then szf A c else if c = A.length then x else szf B (c - A.length - 1) := by
  unfold szf
  rw [List.append_assoc, List.getElem?_append]
  by_cases h : c < A.length
  · rw [if_pos h, if_pos h]
  · rw [if_neg h, if_neg h, List.getElem?_append]
    by_cases q : c = A.length
    · rw [if_pos q, if_pos (by simp; (first | lia | omega)), q, Nat.sub_self]; rfl
    · rw [if_neg q, if_neg (by simp; (first | lia | omega))]; rfl
theorem szf_take {A : List Nat} {k c : Nat} (h : c < k) : szf (A.take k) c = szf A c := by unfold szf; rw [List.getElem?_take, if_pos h]
theorem szf_drop {A : List Nat} {k c : Nat} : szf (A.drop k) c = szf A (k + c) := by unfold szf; rw [List.getElem?_drop]
theorem merged {t pc : Nat} {sz : List Nat} (ht : 1 ≤ t) (hp : pc + 1 < sz.length) (h0 : szf sz pc + 1 = t) (h1 : szf sz (pc + 1) + 1 = t) {c : Nat} : mg (szf sz) pc c = szf (sz.take pc ++ [2 * t - 1] ++ sz.drop (pc + 2)) c := by
  have lA : (sz.take pc).length = pc := by rw [List.length_take]; (first | lia | omega)
  rw [szf_mid, lA]
  unfold mg
  by_cases q : c < pc
  · rw [if_pos q, if_pos q, szf_take q]
  · rw [if_neg q, if_neg q]
    by_cases q1 : c = pc
    · rw [if_pos q1, if_pos q1]; (first | lia | omega)
    · rw [if_neg q1, if_neg q1, szf_drop]
      congr 1
      (first | lia | omega)
theorem merged_len {pc x : Nat} {sz : List Nat} (hp : pc + 1 < sz.length) : (sz.take pc ++ [x] ++ sz.drop (pc + 2)).length = sz.length - 1 := by
  rw [List.length_append, List.length_append, List.length_take, List.length_drop]; simp; (first | lia | omega)
theorem plan_merge {t i pc : Nat} {sz kids : List Nat} (ht : 1 ≤ t) (h : szf sz i < t) (hs : spr t sz (bsd i sz.length) = []) (hp : pc + 1 < sz.length) (hpc : i = pc + 1 ∨ (i = 0 ∧ pc = 0)) (low : ∀ j, j < sz.length → t ≤ szf sz j + 1) :
    Plan t sz kids i pc (sz.take pc ++ [2 * t - 1] ++ sz.drop (pc + 2)) (del kids (pc + 1)) := fun i' n' m' kids' out => by
  cases out with
  | same h1 =>
    rcases h1 with h1 | h1
    · (first | lia | omega)
    · (first | lia | omega)
  | left j a hi h1 hj ha =>
    subst hi
    rw [bsd_s, spr_c, if_pos hj] at hs; cases hs
  | right b h1 hl hn hr hb =>
    cases i with
    | zero => rw [bsd_0 (by (first | lia | omega)), spr_c, if_pos hr] at hs; cases hs
    | succ j =>
      have := hl j rfl
      rw [bsd_s, spr_c, if_neg (by (first | lia | omega)), if_pos (by (first | lia | omega)), spr_c, if_pos hr] at hs; cases hs
  | mergeL j hi h1 hl hr =>
    have : i' = pc := by (first | lia | omega)
    subst this
    subst hi
    have l0 := low i' (by (first | lia | omega))
    have l1 := low (i' + 1) (by (first | lia | omega))
    exact ⟨rfl, (merged_len hp).symm, fun c _ => merged ht hp (by (first | lia | omega)) (by (first | lia | omega)), rfl⟩
  | merge0 hi h1 hn hr =>
    have : pc = 0 := by (first | lia | omega)
    subst this
    subst hi
    have l0 := low 0 (by (first | lia | omega))
    have l1 := low (0 + 1) (by (first | lia | omega))
    have e01 : szf sz (0 + 1) = szf sz 1 := rfl
    exact ⟨rfl, (merged_len hp).symm, fun c _ => merged ht hp (by (first | lia | omega)) (by (first | lia | omega)), rfl⟩
noncomputable def tailW : List ML.S :=
  .ite (.and (.cmp .lt (.idx (.var 7) (.var 3)) (.var 1)) (.cmp .gt (.prim .len [(.var 14)]) (.lit (.int 0)))) [
    .setIdx (.var 15) (.idx (.var 14) (.lit (.int 0))) (.bop .sub (.idx (.var 15) (.idx (.var 14) (.lit (.int 0)))) (.lit (.int 1))),
    .setIdx (.var 15) (.var 3) (.bop .add (.idx (.var 15) (.var 3)) (.lit (.int 1)))] [
    .ite (.and (.cmp .lt (.idx (.var 7) (.var 3)) (.var 1)) (.cmp .gt (.prim .len [(.var 13)]) (.lit (.int 0)))) [
      .assign 17 (.prim .min [(.var 3), (.idx (.var 13) (.lit (.int 0)))]),
      .assign 15 (.bop .add (.bop .add (.slice (.var 7) none (some (.var 17))) (.list [(.bop .sub (.bop .mul (.lit (.int 2)) (.var 1)) (.lit (.int 1)))])) (.slice (.var 7) (some (.bop .add (.var 17) (.lit (.int 2)))) none)),
      .assign 16 (.bop .add (.slice (.var 11) none (some (.bop .add (.var 17) (.lit (.int 1))))) (.slice (.var 11) (some (.bop .add (.var 17) (.lit (.int 2)))) none))] []] :: tailZ
theorem nats_get {l : List Nat} {j : Nat} (h : j < l.length) : (nats l)[j]? = some (.int (szf l j : Nat)) := by
  unfold nats szf
  rw [List.getElem?_map, List.getElem?_eq_getElem h]; rfl
theorem nats_set {l : List Nat} {j x : Nat} : (nats l).set j (.int (x : Nat)) = nats (l.set j x) := by unfold nats; rw [List.map_set]
theorem nats_take {l : List Nat} {j : Nat} : (nats l).take j = nats (l.take j) := by unfold nats; rw [List.map_take]
theorem nats_drop {l : List Nat} {j : Nat} : (nats l).drop j = nats (l.drop j) := by unfold nats; rw [List.map_drop]
theorem bsd_mem {i n j : Nat} (h : j ∈ bsd i n) (hi : i < n) : j < n ∧ j ≠ i := by
  unfold bsd at h
  rcases List.mem_append.mp h with h | h
  · split at h
    · have := List.mem_singleton.mp h; (first | lia | omega)
    · cases h
  · split at h
    · have := List.mem_singleton.mp h; (first | lia | omega)
    · cases h
theorem sl_take {H : Heap} {p n : Nat} {xs : List V} {Q : PV} (h : H p = some (.list xs)) (hz : xs.length ≤ 1000) (k : ∀ a H', H.le H' → H' a = some (.list (xs.take n)) → Q (.ref a) H') : sliceW (.ref p) none (some (.int (n : Int))) H Q :=
  v_sliceL (l := none) (h' := some (n : Int)) h rfl rfl rfl trivial (Int.natCast_nonneg n) (Nat.le_trans hz (by decide)) fun a H' L _ e => k a H' L e
theorem sl_drop {H : Heap} {p n : Nat} {xs : List V} {Q : PV} (h : H p = some (.list xs)) (hz : xs.length ≤ 1000) (k : ∀ a H', H.le H' → H' a = some (.list (xs.drop n)) → Q (.ref a) H') : sliceW (.ref p) (some (.int (n : Int))) none H Q :=
  v_sliceL (l := some (n : Int)) (h' := none) h rfl rfl rfl (Int.natCast_nonneg n) trivial (Nat.le_trans hz (by decide)) fun a H' L _ e => k a H' L e
theorem sl_all {H : Heap} {p : Nat} {xs : List V} {Q : PV} (h : H p = some (.list xs)) (hz : xs.length ≤ 1000) (k : ∀ b H', H.le H' → H b = none → H' b = some (.list xs) → Q (.ref b) H') : sliceW (.ref p) none none H Q :=
  v_sliceL (l := none) (h' := none) h rfl rfl rfl trivial trivial (Nat.le_trans hz (by decide)) k
theorem add_l {H : Heap} {p q : Nat} {xs ys : List V} {Q : PV} (h1 : H p = some (.list xs)) (h2 : H q = some (.list ys)) (z1 : xs.length ≤ 2000) (z2 : ys.length ≤ 1000) (k : ∀ a H', H.le H' → H' a = some (.list (xs ++ ys)) → Q (.ref a) H') : bopW .add (.ref p) (.ref q) H Q :=
  v_addLL h1 h2 (Nat.le_trans (Nat.add_le_add z1 z2) (by decide)) fun a H' L _ e => k a H' L e
theorem le_set {B G : Heap} {p : Nat} {o : O} (L : B.le G) (n : B p = none) : B.le (G.upd p o) := fun b x e => by
  rw [upd_ne (fun q => by rw [q, n] at e; cases e)]; exact L _ _ e
section
variable {T : Nat → Option Fn} (S : Sys T)
theorem tailW_ok (h0 : T 0 = some f_Node_init) (h4 : T 4 = some f_lay) (h5 : T 5 = some f_row_with) (h6 : T 6 = some f_row_without) (h12 : T 12 = some f_merge_children) (h13 : T 13 = some f_borrow_from_left) (h14 : T 14 = some f_borrow_from_right) (h15 : T 15 = some f_fill_child) (h51 : T 51 = some f__law_node) (h52 : T 52 = some f__law_child) (h53 : T 53 = some f__law_parent) (h54 : T 54 = some f__law_view)
    {B G : Heap} {base top tot : Int} {w t i pa cn p7 p11 p13 p14 p15 : Nat} {sz kids all : List Nat} {x0 x2 x8 : Option V} (f : Des B base top w sz.length (szf sz) pa kids all) (hc : B cn = some (.inst 1 [(3, .int t), (4, .ref pa), (5, .int tot)])) (e7 : B p7 = some (.list (nats sz))) (e11 : B p11 = some (.list (refs kids)))
    (e13 : B p13 = some (.list (nats (bsd i sz.length)))) (e14 : B p14 = some (.list (nats (spr t sz (bsd i sz.length))))) (LG : B.le G) (n15 : B p15 = none) (e15 : G p15 = some (.list (nats sz)))
    (hw : w ≤ 3) (ht : 1 ≤ t) (ht4 : t ≤ 4) (hi : i < sz.length) (zn : sz.length ≤ 4) (zs : ∀ j, szf sz j ≤ 7) (low : ∀ j, j < sz.length → t ≤ szf sz j + 1) :
    wpSs S.Φ tailW [x0, some (.int t), x2, some (.int i), some (.int w), some (.int base), some (.int top), some (.ref p7), x8, some (.int tot), some (.ref pa), some (.ref p11), some (.ref cn), some (.ref p13), some (.ref p14), some (.ref p15), some (.ref p11), some (.int i), none, none] G isTrue := by
  have hlim : lim = 1000000 := rfl
  have lk := f.g.lk
  have zb : ∀ l : List Nat, l.length ≤ 4 → (∀ j, szf l j ≤ 20) → lo (szf l) l.length ≤ 90 := fun l h1 h2 => by have := lo_le h2 l.length; (first | lia | omega)
  have zs20 : ∀ j, szf sz j ≤ 20 := fun j => by have := zs j; (first | lia | omega)
  unfold tailW
  walk_at "n"
  refine v_idxN (LG _ _ e7) rfl (by (first | lia | omega)) (nats_get hi) ?_
  walk_at "m"
  have second : (¬ (szf sz i < t ∧ spr t sz (bsd i sz.length) ≠ [])) → wpSs S.Φ [.ite (.and (.cmp .lt (.idx (.var 7) (.var 3)) (.var 1)) (.cmp .gt (.prim .len [(.var 13)]) (.lit (.int 0)))) [
      .assign 17 (.prim .min [(.var 3), (.idx (.var 13) (.lit (.int 0)))]),
      .assign 15 (.bop .add (.bop .add (.slice (.var 7) none (some (.var 17))) (.list [(.bop .sub (.bop .mul (.lit (.int 2)) (.var 1)) (.lit (.int 1)))])) (.slice (.var 7) (some (.bop .add (.var 17) (.lit (.int 2)))) none)),
      .assign 16 (.bop .add (.slice (.var 11) none (some (.bop .add (.var 17) (.lit (.int 1))))) (.slice (.var 11) (some (.bop .add (.var 17) (.lit (.int 2)))) none))] []] [x0, some (.int t), x2, some (.int i), some (.int w), some (.int base), some (.int top), some (.ref p7), x8, some (.int tot), some (.ref pa), some (.ref p11), some (.ref cn), some (.ref p13), some (.ref p14), some (.ref p15), some (.ref p11), some (.int i), none, none] G (thenW (fun m H => wpSs S.Φ tailZ m H isTrue) isTrue) := by
    intro hns
    have same : ¬ (szf sz i < t ∧ bsd i sz.length ≠ []) → wpSs S.Φ tailZ [x0, some (.int t), x2, some (.int i), some (.int w), some (.int base), some (.int top), some (.ref p7), x8, some (.int tot), some (.ref pa), some (.ref p11), some (.ref cn), some (.ref p13), some (.ref p14), some (.ref p15), some (.ref p11), some (.int i), none, none] G isTrue := fun hb =>
      tailZ_ok S h0 h4 h5 h6 h12 h13 h14 h15 h51 h52 h53 h54 (f.le LG) (LG _ _ hc) e15 (LG _ _ e11) hw ht hi (by (first | lia | omega)) zs20 (by (first | lia | omega)) zs20 (zb sz zn zs20) (plan_same hb)
    walk_at "n"
    refine v_idxN (LG _ _ e7) rfl (by (first | lia | omega)) (nats_get hi) ?_
    walk_at "m"
    refine v_if (fun e => ?_) fun e => ?_
    · have e := of_decide_eq_true e
      have hit : szf sz i < t := by (first | lia | omega)
      have hs : spr t sz (bsd i sz.length) = [] := Classical.byContradiction fun q => hns ⟨hit, q⟩
      refine v_len (LG _ _ e13) rfl ?_
      rw [nats_len]
      walk_at "m"
      refine v_if (fun e2 => ?_) fun e2 => ?_
      · have e2 := of_decide_eq_true e2
        obtain ⟨b0, br, hb⟩ : ∃ b0 br, bsd i sz.length = b0 :: br := by
          cases q : bsd i sz.length with
          | nil => rw [q] at e2; simp at e2
          | cons x y => exact ⟨x, y, rfl⟩
        obtain ⟨pc, hpc, hp, emin⟩ : ∃ pc, (i = pc + 1 ∨ (i = 0 ∧ pc = 0)) ∧ pc + 1 < sz.length ∧ (if (b0 : Int) < (i : Int) then (b0 : Int) else (i : Int)) = ((pc : Nat) : Int) := by
          cases i with
          | zero =>
            by_cases q : 1 < sz.length
            · rw [bsd_0 q] at hb
              cases hb
              exact ⟨0, .inr ⟨rfl, rfl⟩, q, by rw [if_neg (by (first | lia | omega))]⟩
            · rw [bsd_00 q] at hb; cases hb
          | succ j =>
            rw [bsd_s] at hb
            cases hb
            exact ⟨b0, .inl rfl, hi, by rw [if_pos (by (first | lia | omega))]⟩
        walk_at "n"
        refine v_idx (v := .int (b0 : Nat)) (LG _ _ e13) rfl (by decide) (by decide) (by rw [hb]; rfl) ?_
        walk_at "m"
        rw [emin]
        walk_at "n"
        refine sl_take (LG _ _ e7) (by rw [nats_len]; (first | lia | omega)) fun b1 G1 L1 g1 => ?_
        refine v_mulI (.inl (mid_of (by decide) (by decide))) ?_
        walk_at "m"
        refine v_allocL fun b2 G2 L2 n2 g2 => ?_
        have et : 2 * (t : Int) - 1 = ((2 * t - 1 : Nat) : Int) := by (first | lia | omega)
        rw [et] at g2
        have zt : ((nats sz).take pc).length ≤ 10 := by rw [nats_take, nats_len, List.length_take]; (first | lia | omega)
        refine add_l (L2 _ _ g1) g2 (by (first | lia | omega)) (by simp) fun b3 G3 L3 g3 => ?_
        have M3 := Heap.le_trans LG (Heap.le_trans L1 (Heap.le_trans L2 L3))
        refine sl_drop (n := pc + 2) (M3 _ _ e7) (by rw [nats_len]; (first | lia | omega)) fun b4 G4 L4 g4 => ?_
        refine add_l (L4 _ _ g3) g4 (by rw [List.length_append]; simp; (first | lia | omega)) (by rw [nats_drop, nats_len, List.length_drop]; (first | lia | omega)) fun b5 G5 L5 g5 => ?_
        have e5 : (nats sz).take pc ++ [V.int ((2 * t - 1 : Nat) : Int)] ++ (nats sz).drop (pc + 2) = nats (sz.take pc ++ [2 * t - 1] ++ sz.drop (pc + 2)) := by rw [nats_app, nats_app, nats_take, nats_drop]; rfl
        rw [e5] at g5
        have M5 := Heap.le_trans M3 (Heap.le_trans L4 L5)
        walk_at "n"
        refine sl_take (n := pc + 1) (M5 _ _ e11) (by rw [refs_len]; (first | lia | omega)) fun b6 G6 L6 g6 => ?_
        refine sl_drop (n := pc + 2) (L6 _ _ (M5 _ _ e11)) (by rw [refs_len]; (first | lia | omega)) fun b7 G7 L7 g7 => ?_
        refine add_l (L7 _ _ g6) g7 (by rw [refs_take, refs_len, List.length_take]; (first | lia | omega)) (by rw [refs_drop, refs_len, List.length_drop]; (first | lia | omega)) fun b8 G8 L8 g8 => ?_
        have e8 : (refs kids).take (pc + 1) ++ (refs kids).drop (pc + 2) = refs (del kids (pc + 1)) := by rw [refs_take, refs_drop, ← refs_app]; rfl
        rw [e8] at g8
        have L58 := Heap.le_trans L6 (Heap.le_trans L7 L8)
        have M8 := Heap.le_trans M5 L58
        refine n_nil (n_then ?_)
        refine n_nil (n_then ?_)
        have zw : ∀ j, szf (sz.take pc ++ [2 * t - 1] ++ sz.drop (pc + 2)) j ≤ 20 := fun j => by
          rw [szf_mid]
          split
          · unfold szf
            rw [List.getElem?_take]
            split
            · exact zs20 j
            · exact Nat.zero_le _
          · split
            · (first | lia | omega)
            · rw [szf_drop]; exact zs20 _
        exact tailZ_ok S h0 h4 h5 h6 h12 h13 h14 h15 h51 h52 h53 h54 (f.le M8) (M8 _ _ hc) (L58 _ _ g5) g8 hw ht hi (by (first | lia | omega)) zs20 (by rw [merged_len hp]; (first | lia | omega)) zw (zb _ (by rw [merged_len hp]; (first | lia | omega)) zw) (plan_merge ht hit hs hp hpc low)
      · have e2 := of_decide_eq_false e2
        refine n_nil (n_then ?_)
        refine n_nil (n_then ?_)
        exact same fun q => by
          cases q1 : bsd i sz.length with
          | nil => exact q.2 q1
          | cons x y => rw [q1, List.length_cons] at e2; (first | lia | omega)
    · have e := of_decide_eq_false e
      refine n_nil (n_then ?_)
      refine n_nil (n_then ?_)
      exact same fun q => by (first | lia | omega)
  refine v_if (fun e => ?_) fun e => ?_
  · have e := of_decide_eq_true e
    have hit : szf sz i < t := by (first | lia | omega)
    refine v_len (LG _ _ e14) rfl ?_
    rw [nats_len]
    walk_at "m"
    refine v_if (fun e2 => ?_) fun e2 => ?_
    · have e2 := of_decide_eq_true e2
      obtain ⟨s0, sr, hb⟩ : ∃ s0 sr, spr t sz (bsd i sz.length) = s0 :: sr := by
        cases q : spr t sz (bsd i sz.length) with
        | nil => rw [q] at e2; simp at e2
        | cons x y => exact ⟨x, y, rfl⟩
      have hs0 : s0 ∈ bsd i sz.length ∧ t ≤ szf sz s0 := by
        have : s0 ∈ spr t sz (bsd i sz.length) := by rw [hb]; exact .head _
        unfold spr at this
        obtain ⟨h1, h2⟩ := List.mem_filter.mp this
        exact ⟨h1, of_decide_eq_true h2⟩
      obtain ⟨hsn, hsi⟩ := bsd_mem hs0.1 hi
      obtain ⟨a, ha⟩ : ∃ a, szf sz s0 = a + 1 := ⟨szf sz s0 - 1, by have := hs0.2; (first | lia | omega)⟩
      have hb0 : (nats (spr t sz (bsd i sz.length)))[(0 : Int).toNat]? = some (.int (s0 : Nat)) := by rw [hb]; rfl
      walk_at "n"
      refine v_idx (v := .int (s0 : Nat)) (LG _ _ e14) rfl (by decide) (by decide) hb0 ?_
      refine v_idxN e15 rfl (by (first | lia | omega)) (nats_get hsn) ?_
      walk_at "m"
      refine v_idx (v := .int (s0 : Nat)) (LG _ _ e14) rfl (by decide) (by decide) hb0 ?_
      refine v_setL e15 (by (first | lia | omega)) (by rw [nats_len]; (first | lia | omega)) (by (first | lia | omega)) ?_
      have ea : ((szf sz s0 : Nat) : Int) - 1 = ((a : Nat) : Int) := by (first | lia | omega)
      rw [ea, Int.toNat_natCast, nats_set]
      have L1 := le_set (o := .list (nats (sz.set s0 a))) LG n15
      have g1 : (G.upd p15 (.list (nats (sz.set s0 a)))) p15 = some (.list (nats (sz.set s0 a))) := upd_self
      generalize G.upd p15 (.list (nats (sz.set s0 a))) = G1 at L1 g1
      walk_at "n"
      refine v_idxN g1 rfl (by (first | lia | omega)) (nats_get (by rw [List.length_set]; exact hi)) ?_
      rw [szf_set hsn, if_neg hsi]
      walk_at "m"
      refine v_setL g1 (by (first | lia | omega)) (by rw [nats_len, List.length_set]; (first | lia | omega)) (by (first | lia | omega)) ?_
      have ea : ((szf sz i : Nat) : Int) + 1 = ((szf sz i + 1 : Nat) : Int) := rfl
      rw [ea, Int.toNat_natCast, nats_set]
      have L2 := le_set (o := .list (nats ((sz.set s0 a).set i (szf sz i + 1)))) L1 n15
      have g2 : (G1.upd p15 (.list (nats ((sz.set s0 a).set i (szf sz i + 1))))) p15 = some (.list (nats ((sz.set s0 a).set i (szf sz i + 1)))) := upd_self
      generalize G1.upd p15 (.list (nats ((sz.set s0 a).set i (szf sz i + 1)))) = G2 at L2 g2
      refine n_nil (n_then ?_)
      have lw : ((sz.set s0 a).set i (szf sz i + 1)).length = sz.length := by rw [List.length_set, List.length_set]
      have zw : ∀ j, szf ((sz.set s0 a).set i (szf sz i + 1)) j ≤ 20 := fun j => by
        rw [szf_set (by rw [List.length_set]; exact hi), szf_set hsn]
        have := zs i
        have := zs s0
        have := zs j
        split
        · (first | lia | omega)
        · split
          · (first | lia | omega)
          · (first | lia | omega)
      exact tailZ_ok S h0 h4 h5 h6 h12 h13 h14 h15 h51 h52 h53 h54 (f.le L2) (L2 _ _ hc) g2 (L2 _ _ e11) hw ht hi (by (first | lia | omega)) zs20 (by (first | lia | omega)) zw (zb _ (by (first | lia | omega)) zw) (plan_move hi hit hb ha)
    · have e2 := of_decide_eq_false e2
      refine second fun q => ?_
      cases q1 : spr t sz (bsd i sz.length) with
      | nil => exact q.2 q1
      | cons x y => rw [q1, List.length_cons] at e2; (first | lia | omega)
  · have e := of_decide_eq_false e
    exact second fun q => by (first | lia | omega)
end
noncomputable def besE : E := .comp (.var 20) 1 (.of (.list [(.bop .sub (.var 3) (.lit (.int 1))), (.bop .add (.var 3) (.lit (.int 1)))])) (some (.cmp2 .le .lt (.lit (.int 0)) (.var 20) (.var 2)))
noncomputable def tailP : List ML.S :=
  .assign 13 besE ::
  .assign 14 (.comp (.var 20) 1 (.of (.var 13)) (some (.cmp .ge (.idx (.var 7) (.var 20)) (.var 1)))) ::
  .assign 15 (.slice (.var 7) none none) ::
  .assign 16 (.var 11) ::
  .assign 17 (.var 3) :: tailW
noncomputable def tailO : List ML.S :=
  .assign 8 (.bop .sub (.bop .add (.prim .sum [(.var 7)]) (.var 2)) (.lit (.int 1))) ::
  .assign 9 (.bop .add (.var 8) (.bop .mul (.bop .add (.var 8) (.lit (.int 1))) (.var 4))) ::
  .assign 10 (.call 53 [(.var 7), (.var 4), (.var 5), (.var 6)]) ::
  .assign 11 (.slice (.attr (.var 10) 2) none none) ::
  .assign 12 (.new 1 [(.var 1)]) ::
  .expr (.meth 7 (.var 12) [(.var 10), (.var 9)]) :: tailP
noncomputable def f_law : Fn := ⟨1, 20,
  .assign 1 (.bop .add (.lit (.int 2)) (.bop .mod (.call 50 [(.var 0), (.lit (.int 0))]) (.lit (.int 3)))) ::
  .assign 2 (.bop .add (.lit (.int 1)) (.bop .mod (.call 50 [(.var 0), (.lit (.int 1))]) (.lit (.int 4)))) ::
  .assign 3 (.bop .mod (.call 50 [(.var 0), (.lit (.int 2))]) (.var 2)) ::
  .assign 4 (.bop .mul (.bop .mod (.call 50 [(.var 0), (.lit (.int 3))]) (.lit (.int 2))) (.bop .sub (.var 1) (.lit (.int 1)))) ::
  .assign 5 (.call 50 [(.var 0), (.lit (.int 4))]) ::
  .assign 6 (.call 50 [(.var 0), (.lit (.int 5))]) ::
  .assign 7 (.comp (.prim .max [(.bop .sub (.var 1) (.lit (.int 1))), (.bop .mod (.call 50 [(.var 0), (.bop .add (.lit (.int 6)) (.var 20))]) (.bop .mul (.lit (.int 2)) (.var 1)))]) 1 (.rng1 (.var 2)) none) :: tailO⟩
noncomputable def inV (n : Nat) : V → Bool
  | .int z => decide (0 ≤ z) && decide (z < (n : Int))
  | _ => false
noncomputable def geV (t : Nat) (sz : List Nat) : V → Bool
  | .int z => decide (t ≤ szf sz z.toNat)
  | _ => false
theorem bes_eq {i n : Nat} (hi : i < n) : ([V.int ((i : Int) - 1), V.int ((i : Int) + 1)].filter (inV n)).map id = nats (bsd i n) := by
  have e1 : inV n (V.int ((i : Int) - 1)) = decide (0 < i) := by
    show (decide (0 ≤ (i : Int) - 1) && decide ((i : Int) - 1 < (n : Int))) = _
    by_cases h : 0 < i
    · rw [decide_eq_true (show 0 ≤ (i : Int) - 1 by (first | lia | omega)), decide_eq_true (show (i : Int) - 1 < (n : Int) by (first | lia | omega)), decide_eq_true h]; rfl
    · rw [decide_eq_false (show ¬ 0 ≤ (i : Int) - 1 by (first | lia | omega)), decide_eq_false h]; rfl
  have e2 : inV n (V.int ((i : Int) + 1)) = decide (i + 1 < n) := by
    show (decide (0 ≤ (i : Int) + 1) && decide ((i : Int) + 1 < (n : Int))) = _
    rw [decide_eq_true (show 0 ≤ (i : Int) + 1 by (first | lia | omega))]
    by_cases h : i + 1 < n
    · rw [decide_eq_true h, decide_eq_true (show (i : Int) + 1 < (n : Int) by (first | lia | omega))]; rfl
    · rw [decide_eq_false h, decide_eq_false (show ¬ (i : Int) + 1 < (n : Int) by (first | lia | omega))]; rfl
  rw [List.map_id, List.filter_cons, List.filter_cons, List.filter_nil, e1, e2]
  unfold bsd
  rw [nats_app]
  by_cases h : 0 < i
  · have e3 : (i : Int) - 1 = ((i - 1 : Nat) : Int) := by (first | lia | omega)
    rw [if_pos (decide_eq_true h), if_pos h, e3]
    by_cases h' : i + 1 < n
    · rw [if_pos (decide_eq_true h'), if_pos h']; rfl
    · rw [if_neg (by rw [decide_eq_false h']; decide), if_neg h']; rfl
  · rw [if_neg (by rw [decide_eq_false h]; decide), if_neg h]
    by_cases h' : i + 1 < n
    · rw [if_pos (decide_eq_true h'), if_pos h']; rfl
    · rw [if_neg (by rw [decide_eq_false h']; decide), if_neg h']; rfl
theorem spr_eq {t : Nat} {sz l : List Nat} : ((nats l).filter (geV t sz)).map id = nats (spr t sz l) := by
  rw [List.map_id]
  induction l with
  | nil => rfl
  | cons j l ih =>
    rw [spr_c]
    show List.filter (geV t sz) (V.int (j : Nat) :: nats l) = _
    rw [List.filter_cons]
    have e : geV t sz (V.int (j : Nat)) = decide (t ≤ szf sz j) := by show decide (t ≤ szf sz (j : Int).toNat) = _; rw [Int.toNat_natCast]
    rw [e]
    by_cases h : t ≤ szf sz j
    · rw [if_pos h, if_pos (decide_eq_true h), ih]; rfl
    · rw [if_neg h, if_neg (by rw [decide_eq_false h]; decide), ih]
theorem n_var {Φ : Orac} {i j : Nat} {v : V} {r : List ML.S} {m : Loc} {H : Heap} {Q : PS} (h : m[j]? = some (some v)) (k : wpSs Φ r (m.set i (some v)) H Q) : wpSs Φ (.assign i (.var j) :: r) m H Q := by
  refine n_assign ?_
  rw [w_var]
  first
    | exact ⟨v, h, k⟩
    | (unfold varW; rw [h]; exact k)
    | (simp only [h]; exact k)
section
variable {T : Nat → Option Fn} (S : Sys T)
theorem tailP_ok (h0 : T 0 = some f_Node_init) (h4 : T 4 = some f_lay) (h5 : T 5 = some f_row_with) (h6 : T 6 = some f_row_without) (h12 : T 12 = some f_merge_children) (h13 : T 13 = some f_borrow_from_left) (h14 : T 14 = some f_borrow_from_right) (h15 : T 15 = some f_fill_child) (h51 : T 51 = some f__law_node) (h52 : T 52 = some f__law_child) (h53 : T 53 = some f__law_parent) (h54 : T 54 = some f__law_view)
    {B : Heap} {base top tot : Int} {w t n i pa cn p7 p11 : Nat} {sz kids all : List Nat} {x0 x8 : Option V} (en : sz.length = n) (f : Des B base top w sz.length (szf sz) pa kids all) (hc : B cn = some (.inst 1 [(3, .int t), (4, .ref pa), (5, .int tot)])) (e7 : B p7 = some (.list (nats sz))) (e11 : B p11 = some (.list (refs kids)))
    (hw : w ≤ 3) (ht : 1 ≤ t) (ht4 : t ≤ 4) (hi : i < sz.length) (zn : sz.length ≤ 4) (zs : ∀ j, szf sz j ≤ 7) (low : ∀ j, j < sz.length → t ≤ szf sz j + 1) :
    wpSs S.Φ tailP [x0, some (.int t), some (.int n), some (.int i), some (.int w), some (.int base), some (.int top), some (.ref p7), x8, some (.int tot), some (.ref pa), some (.ref p11), some (.ref cn), none, none, none, none, none, none, none] B isTrue := by
  have hlim : lim = 1000000 := rfl
  subst en
  unfold tailP
  walk_at "n"
  unfold besE
  walk_at "m"
  refine v_allocL fun b1 G1 L1 n1 g1 => ?_
  refine v_of g1 rfl ?_
  refine comp_pure (inV sz.length) id g1 (by simp; (first | lia | omega)) (fun x hx K hK => ?_) (fun x hx _ K hK => ?_) fun p13 n13 => ?_
  · obtain ⟨z, rfl⟩ : ∃ z, x = .int z := by
      rcases List.mem_cons.mp hx with rfl | hx
      · exact ⟨_, rfl⟩
      · cases List.mem_singleton.mp hx; exact ⟨_, rfl⟩
    walk_at "m"
    replace hK : K (decide (0 ≤ z) && decide (z < (sz.length : Int))) G1 := hK
    refine v_if (fun e => ?_) fun e => ?_
    · rw [e] at hK; exact hK
    · rw [e] at hK; exact hK
  · walk_at "m"
    exact hK
  rw [bes_eq hi]
  have L2 := Heap.le_upd (o := .list (nats (bsd i sz.length))) n13
  have g2 : (G1.upd p13 (.list (nats (bsd i sz.length)))) p13 = some (.list (nats (bsd i sz.length))) := upd_self
  generalize G1.upd p13 (.list (nats (bsd i sz.length))) = G2 at L2 g2
  have M2 := Heap.le_trans L1 L2
  walk_at "n"
  refine v_of g2 rfl ?_
  have zbs : (bsd i sz.length).length ≤ 2 := by
    unfold bsd
    rw [List.length_append]
    by_cases h : 0 < i
    · by_cases h' : i + 1 < sz.length
      · rw [if_pos h, if_pos h']; simp
      · rw [if_pos h, if_neg h']; simp
    · by_cases h' : i + 1 < sz.length
      · rw [if_neg h, if_pos h']; simp
      · rw [if_neg h, if_neg h']; simp
  refine comp_pure (geV t sz) id g2 (by rw [nats_len]; (first | lia | omega)) (fun x hx K hK => ?_) (fun x hx _ K hK => ?_) fun p14 n14 => ?_
  · obtain ⟨j, hj, rfl⟩ := nats_mem hx
    obtain ⟨hjn, _⟩ := bsd_mem hj hi
    walk_at "m"
    refine v_idxN (M2 _ _ e7) rfl (by (first | lia | omega)) (nats_get hjn) ?_
    walk_at "m"
    replace hK : K (decide (t ≤ szf sz (j : Int).toNat)) G2 := hK
    rw [Int.toNat_natCast] at hK
    have ed : decide (((t : Nat) : Int) ≤ ((szf sz j : Nat) : Int)) = decide (t ≤ szf sz j) := by
      by_cases h : t ≤ szf sz j
      · rw [decide_eq_true h, decide_eq_true (by (first | lia | omega))]
      · rw [decide_eq_false h, decide_eq_false (by (first | lia | omega))]
    rw [ed]
    exact hK
  · walk_at "m"
    exact hK
  rw [spr_eq]
  have L3 := Heap.le_upd (o := .list (nats (spr t sz (bsd i sz.length)))) n14
  have g3 : (G2.upd p14 (.list (nats (spr t sz (bsd i sz.length))))) p14 = some (.list (nats (spr t sz (bsd i sz.length)))) := upd_self
  generalize G2.upd p14 (.list (nats (spr t sz (bsd i sz.length)))) = G3 at L3 g3
  have M3 := Heap.le_trans M2 L3
  walk_at "n"
  refine sl_all (M3 _ _ e7) (by rw [nats_len]; (first | lia | omega)) fun p15 G4 L4 n15 g4 => ?_
  refine n_var (v := .ref p11) rfl ?_
  refine n_var (v := .int i) rfl ?_
  exact tailW_ok S h0 h4 h5 h6 h12 h13 h14 h15 h51 h52 h53 h54 (f.le M3) (M3 _ _ hc) (M3 _ _ e7) (M3 _ _ e11) (L3 _ _ g2) g3 L4 n15 g4 hw ht ht4 hi zn zs low
theorem law_ok (h0 : T 0 = some f_Node_init) (h1 : T 1 = some f_Canopy_init) (h4 : T 4 = some f_lay) (h5 : T 5 = some f_row_with) (h6 : T 6 = some f_row_without) (h7 : T 7 = some f_adopt) (h12 : T 12 = some f_merge_children) (h13 : T 13 = some f_borrow_from_left) (h14 : T 14 = some f_borrow_from_right) (h15 : T 15 = some f_fill_child) (h50 : T 50 = some f_law_cell) (h51 : T 51 = some f__law_node) (h52 : T 52 = some f__law_child) (h53 : T 53 = some f__law_parent) (h54 : T 54 = some f__law_view) (h55 : T 55 = some f_law)
    {H : Heap} {a : Nat} {ns : List Int} (ha : H a = some (.ro (ns.map V.int))) (hn : ns.length ≤ 63) : S.Φ 55 [.ref a] H (fun v _ => v = .bool true) := by
  have hlim : lim = 1000000 := rfl
  refine S.call h55 rfl ?_
  dsimp only [f_law]
  walk_at "m"
  walk_at "n"
  refine spec_cell S h50 ha (by decide) hn (v_modI (by decide) ?_)
  have b3 := emod_b (cell ns 0) 3 (by decide)
  generalize cell ns 0 % 3 = n3 at b3
  obtain ⟨t, hte⟩ : ∃ n : Nat, 2 + n3 = n := ⟨(2 + n3).toNat, by (first | lia | omega)⟩
  walk_at "m"
  rw [hte]
  have ht2 : 2 ≤ t := by (first | lia | omega)
  have ht4 : t ≤ 4 := by (first | lia | omega)
  clear hte b3 n3
  walk_at "n"
  refine spec_cell S h50 ha (by decide) hn (v_modI (by decide) ?_)
  have b3 := emod_b (cell ns 1) 4 (by decide)
  generalize cell ns 1 % 4 = n3 at b3
  obtain ⟨n, hne⟩ : ∃ n : Nat, 1 + n3 = n := ⟨(1 + n3).toNat, by (first | lia | omega)⟩
  walk_at "m"
  rw [hne]
  have zn1 : 1 ≤ n := by (first | lia | omega)
  have zn : n ≤ 4 := by (first | lia | omega)
  clear hne b3 n3
  walk_at "n"
  refine spec_cell S h50 ha (by decide) hn (v_modI (by (first | lia | omega)) ?_)
  have b4 := emod_b (cell ns 2) n (by (first | lia | omega))
  generalize cell ns 2 % n = n4 at b4
  obtain ⟨i, rfl⟩ : ∃ n : Nat, n4 = n := ⟨n4.toNat, by (first | lia | omega)⟩
  have hi : i < n := by (first | lia | omega)
  clear b4
  walk_at "n"
  refine spec_cell S h50 ha (by decide) hn (v_modI (by decide) ?_)
  have b5 := emod_b (cell ns 3) 2 (by decide)
  generalize cell ns 3 % 2 = n5 at b5
  walk_at "m"
  refine v_mulI (.inl (mid_of (by (first | lia | omega)) (by (first | lia | omega)))) ?_
  obtain ⟨w, hwe, hw⟩ : ∃ w : Nat, n5 * ((t : Int) - 1) = w ∧ w ≤ 3 := by
    have : n5 = 0 ∨ n5 = 1 := by (first | lia | omega)
    rcases this with rfl | rfl
    · exact ⟨0, by rw [Int.zero_mul]; rfl, by (first | lia | omega)⟩
    · exact ⟨t - 1, by rw [Int.one_mul]; (first | lia | omega), by (first | lia | omega)⟩
  rw [hwe]
  clear hwe b5
  walk_at "n"
  refine spec_cell S h50 ha (by decide) hn ?_
  generalize cell ns 4 = base
  walk_at "n"
  refine spec_cell S h50 ha (by decide) hn ?_
  generalize cell ns 5 = top
  walk_at "n"
  refine v_rng1 (mid_nat (by (first | lia | omega))) ?_
  have e0n : rngList 0 (n : Int) = rngList ((0 : Nat) : Int) ((0 + n : Nat) : Int) := by rw [Nat.zero_add]; rfl
  rw [e0n]
  refine comp_acc (fun j acc G => G = H ∧ ∃ sz : List Nat, acc = nats sz ∧ sz.length = j ∧ ∀ x ∈ sz, t ≤ x + 1 ∧ x ≤ 7)
    ⟨rfl, [], rfl, rfl, (fun _ h => nomatch h)⟩ (by (first | lia | omega)) (fun j acc G hJ => by obtain ⟨_, sz, rfl, e, _⟩ := hJ; rw [nats_len, e]) (fun j acc G K' hj hJ hK => ?_) fun acc G p7 G1 hJ L1 np7 e7 => ?_
  · obtain ⟨rfl, sz, rfl, ls, zs⟩ := hJ
    walk_at "m"
    refine spec_cell S h50 ha (by (first | lia | omega)) hn ?_
    refine v_mulI (.inl (mid_of (by decide) (by decide))) ?_
    refine v_modI (by (first | lia | omega)) ?_
    have b6 := emod_b (cell ns (6 + ((0 + j : Nat) : Int))) (2 * t) (by (first | lia | omega))
    generalize cell ns (6 + ((0 + j : Nat) : Int)) % (2 * t) = n6 at b6
    walk_at "m"
    obtain ⟨x, hx, hx1, hx2⟩ : ∃ x : Nat, (if (t : Int) - 1 < n6 then n6 else (t : Int) - 1) = x ∧ t ≤ x + 1 ∧ x ≤ 7 := by
      by_cases q : (t : Int) - 1 < n6
      · exact ⟨n6.toNat, by rw [if_pos q]; (first | lia | omega), by (first | lia | omega), by (first | lia | omega)⟩
      · exact ⟨t - 1, by rw [if_neg q]; (first | lia | omega), by (first | lia | omega), by (first | lia | omega)⟩
    rw [hx]
    refine hK _ _ ⟨rfl, sz ++ [x], by rw [nats_app]; rfl, by rw [List.length_append, ls]; rfl, fun z hz => ?_⟩
    rcases List.mem_append.mp hz with hz | hz
    · exact zs z hz
    · rw [List.mem_singleton.mp hz]; exact ⟨hx1, hx2⟩
  obtain ⟨rfl, sz, rfl, ls, zs⟩ := hJ
  have z7 : ∀ j, szf sz j ≤ 7 := fun j => by
    unfold szf
    cases q : sz[j]? with
    | none => exact Nat.zero_le _
    | some x => exact (zs x (List.mem_of_getElem? q)).2
  have low : ∀ j, j < sz.length → t ≤ szf sz j + 1 := fun j hj => by
    unfold szf
    rw [List.getElem?_eq_getElem hj]
    exact (zs _ (List.getElem_mem hj)).1
  walk_at "m"
  unfold tailO
  walk_at "n"
  have ez : nats sz = (sz.map fun n : Nat => (n : Int)).map V.int := by unfold nats; rw [List.map_map]; rfl
  refine v_sum (ns := sz.map fun n : Nat => (n : Int)) e7 (by rw [ez]; rfl) ?_
  walk_at "m"
  generalize sumZ (sz.map fun n : Nat => (n : Int)) + (n : Int) - 1 = mdl
  walk_at "n"
  refine v_mulI (.inr (mid_nat (by (first | lia | omega)))) ?_
  walk_at "m"
  generalize mdl + (mdl + 1) * (w : Int) = tot
  walk_at "n"
  have z20 : lo (szf sz) sz.length ≤ 90 := by have := lo_le (m := szf sz) (fun j => by have := z7 j; (first | lia | omega)) sz.length; (first | lia | omega)
  refine spec_parent S h0 h51 h52 h53 hw e7 (by (first | lia | omega)) z20 fun pa kids all G2 L2 d => ?_
  have lk := d.g.lk
  walk_at "n"
  refine at_c d.par fun p hp => ?_
  refine sl_all hp (by rw [refs_len]; (first | lia | omega)) fun p11 G3 L3 n11 e11 => ?_
  walk_at "n"
  refine new_canopy S h0 h1 fun cn rn G4 L4 nc nn' nnc hc hrn => ?_
  have L24 := Heap.le_trans L3 L4
  walk_at "n"
  refine v_isInst hc ?_
  refine spec_adopt S h7 hc ?_
  walk_at "m"
  have L5 : G3.le (G4.upd cn (.inst 1 [(3, .int t), (4, .ref pa), (5, .int tot)])) := le_set L4 nc
  have g5 : (G4.upd cn (.inst 1 [(3, .int t), (4, .ref pa), (5, .int tot)])) cn = some (.inst 1 [(3, .int t), (4, .ref pa), (5, .int tot)]) := upd_self
  generalize G4.upd cn (.inst 1 [(3, .int t), (4, .ref pa), (5, .int tot)]) = G5 at L5 g5
  have L25 := Heap.le_trans L3 L5
  exact tailP_ok S h0 h4 h5 h6 h12 h13 h14 h15 h51 h52 h53 h54 ls (d.le L25) g5 (L25 _ _ (L2 _ _ e7)) (L5 _ _ e11) hw (by (first | lia | omega)) ht4 (by (first | lia | omega)) (by (first | lia | omega)) z7 low
end
end L0016
end ML
open PySem PySem.W PyProof.Rows
set_option Elab.async false
set_option maxRecDepth 100000
set_option maxHeartbeats 8000000
namespace ML
theorem said : PySem.Challenge.rw_k9_0016.wellSaid = true := by
  rw [show @OpenLaw.wellSaid = PySem.W.Fast.tw9446332074065402090 from PySem.W.Fast.te9446332074065402090]
  kernel_rfl
noncomputable def helpers : List (Str × Nat × Nat) := [("_law_cell", 50, 0), ("_law_node", 51, 1), ("_law_child", 52, 2), ("_law_parent", 53, 3), ("_law_view", 54, 0), ("law", 55, 4)]
noncomputable def keeps : List Nat := [0, 2, 3, 4, 5, 7, 8, 9, 10, 11, 12]
theorem big (w : World) (os : OsState) : (topRun treeTable PySem.Challenge.pw_k9_0016 w (boot_heap w.params).objs.size ((boot_heap w.params).nsMap mainGlobals "__annotations__") 20000 (boot0 w os) (topStub PySem.Challenge.pw_k9_0016)).map (fun s =>
    ((staticsOk (importedModules PySem.Challenge.pw_k9_0016.main.body) (boot_heap w.params) s.heap && namesBound PySem.Challenge.pw_k9_0016 s.heap && gensDone s && laidKept (boot_heap w.params) s.heap), openSeen (view PySem.Challenge.pw_k9_0016 keeps) [] (importedModules PySem.Challenge.pw_k9_0016.main.body) (fun s => xlAt (view PySem.Challenge.pw_k9_0016 keeps) [] s && recOk [] s) true s, looks helpers 55 [0, 1, 4, 5, 6, 7, 12, 13, 14, 15, 50, 51, 52, 53, 54, 55] (fragAt s.heap))) =
    some (true, openGood (view PySem.Challenge.pw_k9_0016 keeps) [], (true, true, some 4, [some f_Node_init, some f_Canopy_init, some f_lay, some f_row_with, some f_row_without, some f_adopt, some f_merge_children, some f_borrow_from_left, some f_borrow_from_right, some f_fill_child, some f_law_cell, some L0016.f__law_node, some L0016.f__law_child, some L0016.f__law_parent, some L0016.f__law_view, some L0016.f_law])) := by
  rw [PySem.W.Fast.te14082659384304107361, PySem.W.Fast.te14364793385576792824, PySem.W.Fast.te8920871248978507458, PySem.W.Fast.te5923862056798008813, PySem.W.Fast.te4187177175401517315]
  kernel_rfl
theorem left : LeftO PySem.Challenge.pw_k9_0016 (view PySem.Challenge.pw_k9_0016 keeps) [] (fun s => xlAt (view PySem.Challenge.pw_k9_0016 keeps) [] s && recOk [] s) (fun s => fragAt s.heap) (fun w => KAt PySem.Challenge.pw_k9_0016 20000 w) 20000 :=
  left_whole (by kernel_rfl) (by kernel_rfl) (fun _ => rfl) fun w os => let ⟨s, h1, h2, _⟩ := run_of (big w os); ⟨s, h1, h2⟩
theorem look (w : World) : looks helpers 55 [0, 1, 4, 5, 6, 7, 12, 13, 14, 15, 50, 51, 52, 53, 54, 55] (KAt PySem.Challenge.pw_k9_0016 20000 w) = (true, true, some 4, [some f_Node_init, some f_Canopy_init, some f_lay, some f_row_with, some f_row_without, some f_adopt, some f_merge_children, some f_borrow_from_left, some f_borrow_from_right, some f_fill_child, some f_law_cell, some L0016.f__law_node, some L0016.f__law_child, some L0016.f__law_parent, some L0016.f__law_view, some L0016.f_law]) :=
  looks_of (let ⟨s, h1, _, h3⟩ := run_of (big w (osOf PySem.Challenge.pw_k9_0016 20000 w)); ⟨s, h1, h3⟩)
end ML
open ML
theorem PySem.Challenge.cw_k9_0016_holds : PySem.Challenge.rw_k9_0016.Holds := by
  w_on
  refine holds_law ML.said fun said => ?_
  refine holds_open (q := view PySem.Challenge.pw_k9_0016 keeps) (loose := []) (Xt := fun s => xlAt (view PySem.Challenge.pw_k9_0016 keeps) [] s && recOk [] s) (XP := XL (view PySem.Challenge.pw_k9_0016 keeps) []) (Yf := fun s => fragAt s.heap) (Ya := fun w => KAt PySem.Challenge.pw_k9_0016 20000 w) (YP := fun w h => (KAt PySem.Challenge.pw_k9_0016 20000 w).In h) (N := 20000)
    ML.left (fun w s e => e ▸ frag_in) (fun w h h' x k => Frag.In.keeps x k) (fun s e => xl_of s (Bool.and_eq_true_iff.mp e).1) XL.keeps (by rfl) (by rfl) (by rfl) (fun s e => recFacts_of (Bool.and_eq_true_iff.mp e).2) (by rfl) said (by decide +kernel) ⟨rfl, rfl, rfl, rfl, rfl, by decide +kernel⟩ ?hw ?hc
  case hw => w_witness2
  case hc =>
  intro w s₀ s₁ mg mb G Y fa o pm cd doc dV kV ho hd hcd hD hmg hg args vals as hpre hlay hrd hwl hlo
  have KX : (KAt PySem.Challenge.pw_k9_0016 20000 w).In s₁.heap := Y
  refine Ground.open G ?_
  intro T B D TE TW
  wrow_args hpre hlay hrd hwl hlo
  all_goals refine enter_call ?_
  rename_i ns _ _ _ _ _ _ _ a vs _ hL _ _ _ hI _ hc _
  obtain ⟨k1, z⟩ := Prod.mk.inj (look w)
  obtain ⟨k2, z⟩ := Prod.mk.inj z
  obtain ⟨k3, z⟩ := Prod.mk.inj z
  refine codeAny_mono (row_end KX (topRead_of T) hmg hg hL hI hc rfl rfl k1 (law_of k2) k3 (by decide) fun S => L0016.law_ok (ns := ns) S (pick z (i := 0) rfl rfl) (pick z (i := 1) rfl rfl) (pick z (i := 2) rfl rfl) (pick z (i := 3) rfl rfl) (pick z (i := 4) rfl rfl) (pick z (i := 5) rfl rfl) (pick z (i := 6) rfl rfl) (pick z (i := 7) rfl rfl) (pick z (i := 8) rfl rfl) (pick z (i := 9) rfl rfl) (pick z (i := 10) rfl rfl) (pick z (i := 11) rfl rfl) (pick z (i := 12) rfl rfl) (pick z (i := 13) rfl rfl) (pick z (i := 14) rfl rfl) (pick z (i := 15) rfl rfl) (by simp [H0]) (by (first | lia | omega))) fun r s' z => ?_
  obtain ⟨e, k, o, g⟩ := z
  exact GoodW.toG ⟨.inl ⟨.bool true, .bool true, [], e, fun _ => rfl, .bool true, (by first | kernel_rfl | with_unfolding_all rfl), fun _ => ⟨List.nodup_nil, fun _ h => nomatch h⟩⟩, k, o, g⟩
